/- Part 7 of the texts that the law needs, laid together. By program (pack.py). -/
import Derived.Test.YtpggoincnebfnaaPrf
import Derived.KernelRfl
set_option linter.unusedVariables false
set_option linter.unusedSimpArgs false
noncomputable section
namespace Go.Proofs.Ytpggoincnebfnaa
open Go Go.Ly Go.RowKit
variable (m : Mc) (g : Nat → Int) (b1 b2 : Int)
@[simp] def z80_0 (m : Mc) : Mc := { m with fc := decide (255 < m.r7 + m.r0 + 0), fp := par ((m.r7 + m.r0 + 0) % 256), fs := decide (128 ≤ (m.r7 + m.r0 + 0) % 256), fx := decide (15 < m.r7 % 16 + m.r0 % 16 + 0), fz := (m.r7 + m.r0 + 0) % 256 == 0, pc := w16 (m.pc + 1), r7 := (m.r7 + m.r0 + 0) % 256 }
theorem p80_0 : endsAt [0, 1] (Ly.run ctx3 3000 [(22, true), (5, true)] (sP m g 128 b1 b2)) = some (T [m.fc == true, inb m.r7 && inb m.r0], .int .i64 0, 5, hPm (z80_0 m) (memL g)) := by kernel_rfl
theorem p80_1 : endsAt [0, 1] (Ly.run ctx3 3000 [(22, false), (5, true)] (sP m g 128 b1 b2)) = some ([(m.fc == true, false), (inb m.r7 && inb m.r0, true)], .int .i64 0, 5, hPm (z80_0 m) (memL g)) := by kernel_rfl
theorem r80_0 : endsAt [0, 1, 2] (Ly.run ctx3 3000 [(4, true), (16, true)] (sR m g 128)) = some (T [inw m.pc && true, inb m.r7 && inb m.r0], .int .i64 0, 4, hRm (z80_0 m) (memL g)) := by kernel_rfl
theorem o80 (hm : m.Ok) (hg : ∀ e, B8 (g e)) (hh : m.halt = false) (h0 : g (ix m.pc) = 128) : Both m g := by
  obtain ⟨r0, r1, r2, r3, r4, r5, r7, sp, pc⟩ := id hm
  cases hf : m.fc
  · exact joinA (m' := (z80_0 m)) hm hh h0 (p80_1 m g _ _) (r80_0 m g) hg
  · exact joinA (m' := (z80_0 m)) hm hh h0 (p80_0 m g _ _) (r80_0 m g) hg
@[simp] def z81_0 (m : Mc) : Mc := { m with fc := decide (255 < m.r7 + m.r1 + 0), fp := par ((m.r7 + m.r1 + 0) % 256), fs := decide (128 ≤ (m.r7 + m.r1 + 0) % 256), fx := decide (15 < m.r7 % 16 + m.r1 % 16 + 0), fz := (m.r7 + m.r1 + 0) % 256 == 0, pc := w16 (m.pc + 1), r7 := (m.r7 + m.r1 + 0) % 256 }
theorem p81_0 : endsAt [0, 1] (Ly.run ctx3 3000 [(22, true), (5, true)] (sP m g 129 b1 b2)) = some (T [m.fc == true, inb m.r7 && inb m.r1], .int .i64 0, 5, hPm (z81_0 m) (memL g)) := by kernel_rfl
theorem p81_1 : endsAt [0, 1] (Ly.run ctx3 3000 [(22, false), (5, true)] (sP m g 129 b1 b2)) = some ([(m.fc == true, false), (inb m.r7 && inb m.r1, true)], .int .i64 0, 5, hPm (z81_0 m) (memL g)) := by kernel_rfl
theorem r81_0 : endsAt [0, 1, 2] (Ly.run ctx3 3000 [(4, true), (16, true)] (sR m g 129)) = some (T [inw m.pc && true, inb m.r7 && inb m.r1], .int .i64 0, 4, hRm (z81_0 m) (memL g)) := by kernel_rfl
theorem o81 (hm : m.Ok) (hg : ∀ e, B8 (g e)) (hh : m.halt = false) (h0 : g (ix m.pc) = 129) : Both m g := by
  obtain ⟨r0, r1, r2, r3, r4, r5, r7, sp, pc⟩ := id hm
  cases hf : m.fc
  · exact joinA (m' := (z81_0 m)) hm hh h0 (p81_1 m g _ _) (r81_0 m g) hg
  · exact joinA (m' := (z81_0 m)) hm hh h0 (p81_0 m g _ _) (r81_0 m g) hg
@[simp] def z82_0 (m : Mc) : Mc := { m with fc := decide (255 < m.r7 + m.r2 + 0), fp := par ((m.r7 + m.r2 + 0) % 256), fs := decide (128 ≤ (m.r7 + m.r2 + 0) % 256), fx := decide (15 < m.r7 % 16 + m.r2 % 16 + 0), fz := (m.r7 + m.r2 + 0) % 256 == 0, pc := w16 (m.pc + 1), r7 := (m.r7 + m.r2 + 0) % 256 }
theorem p82_0 : endsAt [0, 1] (Ly.run ctx3 3000 [(22, true), (5, true)] (sP m g 130 b1 b2)) = some (T [m.fc == true, inb m.r7 && inb m.r2], .int .i64 0, 5, hPm (z82_0 m) (memL g)) := by kernel_rfl
theorem p82_1 : endsAt [0, 1] (Ly.run ctx3 3000 [(22, false), (5, true)] (sP m g 130 b1 b2)) = some ([(m.fc == true, false), (inb m.r7 && inb m.r2, true)], .int .i64 0, 5, hPm (z82_0 m) (memL g)) := by kernel_rfl
theorem r82_0 : endsAt [0, 1, 2] (Ly.run ctx3 3000 [(4, true), (16, true)] (sR m g 130)) = some (T [inw m.pc && true, inb m.r7 && inb m.r2], .int .i64 0, 4, hRm (z82_0 m) (memL g)) := by kernel_rfl
theorem o82 (hm : m.Ok) (hg : ∀ e, B8 (g e)) (hh : m.halt = false) (h0 : g (ix m.pc) = 130) : Both m g := by
  obtain ⟨r0, r1, r2, r3, r4, r5, r7, sp, pc⟩ := id hm
  cases hf : m.fc
  · exact joinA (m' := (z82_0 m)) hm hh h0 (p82_1 m g _ _) (r82_0 m g) hg
  · exact joinA (m' := (z82_0 m)) hm hh h0 (p82_0 m g _ _) (r82_0 m g) hg
@[simp] def z83_0 (m : Mc) : Mc := { m with fc := decide (255 < m.r7 + m.r3 + 0), fp := par ((m.r7 + m.r3 + 0) % 256), fs := decide (128 ≤ (m.r7 + m.r3 + 0) % 256), fx := decide (15 < m.r7 % 16 + m.r3 % 16 + 0), fz := (m.r7 + m.r3 + 0) % 256 == 0, pc := w16 (m.pc + 1), r7 := (m.r7 + m.r3 + 0) % 256 }
theorem p83_0 : endsAt [0, 1] (Ly.run ctx3 3000 [(22, true), (5, true)] (sP m g 131 b1 b2)) = some (T [m.fc == true, inb m.r7 && inb m.r3], .int .i64 0, 5, hPm (z83_0 m) (memL g)) := by kernel_rfl
theorem p83_1 : endsAt [0, 1] (Ly.run ctx3 3000 [(22, false), (5, true)] (sP m g 131 b1 b2)) = some ([(m.fc == true, false), (inb m.r7 && inb m.r3, true)], .int .i64 0, 5, hPm (z83_0 m) (memL g)) := by kernel_rfl
theorem r83_0 : endsAt [0, 1, 2] (Ly.run ctx3 3000 [(4, true), (16, true)] (sR m g 131)) = some (T [inw m.pc && true, inb m.r7 && inb m.r3], .int .i64 0, 4, hRm (z83_0 m) (memL g)) := by kernel_rfl
theorem o83 (hm : m.Ok) (hg : ∀ e, B8 (g e)) (hh : m.halt = false) (h0 : g (ix m.pc) = 131) : Both m g := by
  obtain ⟨r0, r1, r2, r3, r4, r5, r7, sp, pc⟩ := id hm
  cases hf : m.fc
  · exact joinA (m' := (z83_0 m)) hm hh h0 (p83_1 m g _ _) (r83_0 m g) hg
  · exact joinA (m' := (z83_0 m)) hm hh h0 (p83_0 m g _ _) (r83_0 m g) hg
@[simp] def z84_0 (m : Mc) : Mc := { m with fc := decide (255 < m.r7 + m.r4 + 0), fp := par ((m.r7 + m.r4 + 0) % 256), fs := decide (128 ≤ (m.r7 + m.r4 + 0) % 256), fx := decide (15 < m.r7 % 16 + m.r4 % 16 + 0), fz := (m.r7 + m.r4 + 0) % 256 == 0, pc := w16 (m.pc + 1), r7 := (m.r7 + m.r4 + 0) % 256 }
theorem p84_0 : endsAt [0, 1] (Ly.run ctx3 3000 [(22, true), (5, true)] (sP m g 132 b1 b2)) = some (T [m.fc == true, inb m.r7 && inb m.r4], .int .i64 0, 5, hPm (z84_0 m) (memL g)) := by kernel_rfl
theorem p84_1 : endsAt [0, 1] (Ly.run ctx3 3000 [(22, false), (5, true)] (sP m g 132 b1 b2)) = some ([(m.fc == true, false), (inb m.r7 && inb m.r4, true)], .int .i64 0, 5, hPm (z84_0 m) (memL g)) := by kernel_rfl
theorem r84_0 : endsAt [0, 1, 2] (Ly.run ctx3 3000 [(4, true), (16, true)] (sR m g 132)) = some (T [inw m.pc && true, inb m.r7 && inb m.r4], .int .i64 0, 4, hRm (z84_0 m) (memL g)) := by kernel_rfl
theorem o84 (hm : m.Ok) (hg : ∀ e, B8 (g e)) (hh : m.halt = false) (h0 : g (ix m.pc) = 132) : Both m g := by
  obtain ⟨r0, r1, r2, r3, r4, r5, r7, sp, pc⟩ := id hm
  cases hf : m.fc
  · exact joinA (m' := (z84_0 m)) hm hh h0 (p84_1 m g _ _) (r84_0 m g) hg
  · exact joinA (m' := (z84_0 m)) hm hh h0 (p84_0 m g _ _) (r84_0 m g) hg
@[simp] def z85_0 (m : Mc) : Mc := { m with fc := decide (255 < m.r7 + m.r5 + 0), fp := par ((m.r7 + m.r5 + 0) % 256), fs := decide (128 ≤ (m.r7 + m.r5 + 0) % 256), fx := decide (15 < m.r7 % 16 + m.r5 % 16 + 0), fz := (m.r7 + m.r5 + 0) % 256 == 0, pc := w16 (m.pc + 1), r7 := (m.r7 + m.r5 + 0) % 256 }
theorem p85_0 : endsAt [0, 1] (Ly.run ctx3 3000 [(22, true), (5, true)] (sP m g 133 b1 b2)) = some (T [m.fc == true, inb m.r7 && inb m.r5], .int .i64 0, 5, hPm (z85_0 m) (memL g)) := by kernel_rfl
theorem p85_1 : endsAt [0, 1] (Ly.run ctx3 3000 [(22, false), (5, true)] (sP m g 133 b1 b2)) = some ([(m.fc == true, false), (inb m.r7 && inb m.r5, true)], .int .i64 0, 5, hPm (z85_0 m) (memL g)) := by kernel_rfl
theorem r85_0 : endsAt [0, 1, 2] (Ly.run ctx3 3000 [(4, true), (16, true)] (sR m g 133)) = some (T [inw m.pc && true, inb m.r7 && inb m.r5], .int .i64 0, 4, hRm (z85_0 m) (memL g)) := by kernel_rfl
theorem o85 (hm : m.Ok) (hg : ∀ e, B8 (g e)) (hh : m.halt = false) (h0 : g (ix m.pc) = 133) : Both m g := by
  obtain ⟨r0, r1, r2, r3, r4, r5, r7, sp, pc⟩ := id hm
  cases hf : m.fc
  · exact joinA (m' := (z85_0 m)) hm hh h0 (p85_1 m g _ _) (r85_0 m g) hg
  · exact joinA (m' := (z85_0 m)) hm hh h0 (p85_0 m g _ _) (r85_0 m g) hg
@[simp] def z86_0 (m : Mc) (g : Nat → Int) : Mc := { m with fc := decide (255 < m.r7 + g (ix (or16 (w16 (w16 m.r4 * 256)) (w16 m.r5))) + 0), fp := par ((m.r7 + g (ix (or16 (w16 (w16 m.r4 * 256)) (w16 m.r5))) + 0) % 256), fs := decide (128 ≤ (m.r7 + g (ix (or16 (w16 (w16 m.r4 * 256)) (w16 m.r5))) + 0) % 256), fx := decide (15 < m.r7 % 16 + g (ix (or16 (w16 (w16 m.r4 * 256)) (w16 m.r5))) % 16 + 0), fz := (m.r7 + g (ix (or16 (w16 (w16 m.r4 * 256)) (w16 m.r5))) + 0) % 256 == 0, pc := w16 (m.pc + 1), r7 := (m.r7 + g (ix (or16 (w16 (w16 m.r4 * 256)) (w16 m.r5))) + 0) % 256 }
theorem p86_0 : endsAt [0, 1] (Ly.run ctx3 3000 [(28, true), (0, true), (13, true), (0, true), (1, true), (5, true)] (sP m g 134 b1 b2)) = some (T [(true && lt16 (or16 (w16 (w16 m.r4 * 256)) (w16 m.r5))), bl (ix (or16 (w16 (w16 m.r4 * 256)) (w16 m.r5))), (true && lt16 (or16 (w16 (w16 m.r4 * 256)) (w16 m.r5))), bl (ix (or16 (w16 (w16 m.r4 * 256)) (w16 m.r5))), m.fc == true, inb m.r7 && inb (g (ix (or16 (w16 (w16 m.r4 * 256)) (w16 m.r5))))], .int .i64 0, 5, hPm (z86_0 m g) (memL g)) := by kernel_rfl
theorem p86_1 : endsAt [0, 1] (Ly.run ctx3 3000 [(28, true), (0, true), (13, true), (0, true), (1, false), (5, true)] (sP m g 134 b1 b2)) = some ([((true && lt16 (or16 (w16 (w16 m.r4 * 256)) (w16 m.r5))), true), (bl (ix (or16 (w16 (w16 m.r4 * 256)) (w16 m.r5))), true), ((true && lt16 (or16 (w16 (w16 m.r4 * 256)) (w16 m.r5))), true), (bl (ix (or16 (w16 (w16 m.r4 * 256)) (w16 m.r5))), true), (m.fc == true, false), (inb m.r7 && inb (g (ix (or16 (w16 (w16 m.r4 * 256)) (w16 m.r5)))), true)], .int .i64 0, 5, hPm (z86_0 m g) (memL g)) := by kernel_rfl
theorem r86_0 : endsAt [0, 1, 2] (Ly.run ctx3 3000 [(4, true), (12, true), (0, true), (0, true), (9, true)] (sR m g 134)) = some (T [inw m.pc && true, inb m.r4 && inb m.r5, rg (256 * m.r4 + m.r5), bl (ix (256 * m.r4 + m.r5)), inb m.r7 && inb (g (ix (256 * m.r4 + m.r5)))], .int .i64 0, 4, hRm { m with fc := decide (255 < m.r7 + g (ix (256 * m.r4 + m.r5)) + 0), fp := par ((m.r7 + g (ix (256 * m.r4 + m.r5)) + 0) % 256), fs := decide (128 ≤ (m.r7 + g (ix (256 * m.r4 + m.r5)) + 0) % 256), fx := decide (15 < m.r7 % 16 + g (ix (256 * m.r4 + m.r5)) % 16 + 0), fz := (m.r7 + g (ix (256 * m.r4 + m.r5)) + 0) % 256 == 0, pc := w16 (m.pc + 1), r7 := (m.r7 + g (ix (256 * m.r4 + m.r5)) + 0) % 256 } (memL g)) := by kernel_rfl
theorem o86 (hm : m.Ok) (hg : ∀ e, B8 (g e)) (hh : m.halt = false) (h0 : g (ix m.pc) = 134) : Both m g := by
  obtain ⟨r0, r1, r2, r3, r4, r5, r7, sp, pc⟩ := id hm
  cases hf : m.fc
  · exact joinA (m' := (z86_0 m g)) hm hh h0 (p86_1 m g _ _) (r86_0 m g) hg
  · exact joinA (m' := (z86_0 m g)) hm hh h0 (p86_0 m g _ _) (r86_0 m g) hg
@[simp] def z87_0 (m : Mc) : Mc := { m with fc := decide (255 < m.r7 + m.r7 + 0), fp := par ((m.r7 + m.r7 + 0) % 256), fs := decide (128 ≤ (m.r7 + m.r7 + 0) % 256), fx := decide (15 < m.r7 % 16 + m.r7 % 16 + 0), fz := (m.r7 + m.r7 + 0) % 256 == 0, pc := w16 (m.pc + 1), r7 := (m.r7 + m.r7 + 0) % 256 }
theorem p87_0 : endsAt [0, 1] (Ly.run ctx3 3000 [(22, true), (5, true)] (sP m g 135 b1 b2)) = some (T [m.fc == true, inb m.r7 && inb m.r7], .int .i64 0, 5, hPm (z87_0 m) (memL g)) := by kernel_rfl
theorem p87_1 : endsAt [0, 1] (Ly.run ctx3 3000 [(22, false), (5, true)] (sP m g 135 b1 b2)) = some ([(m.fc == true, false), (inb m.r7 && inb m.r7, true)], .int .i64 0, 5, hPm (z87_0 m) (memL g)) := by kernel_rfl
theorem r87_0 : endsAt [0, 1, 2] (Ly.run ctx3 3000 [(4, true), (16, true)] (sR m g 135)) = some (T [inw m.pc && true, inb m.r7 && inb m.r7], .int .i64 0, 4, hRm (z87_0 m) (memL g)) := by kernel_rfl
theorem o87 (hm : m.Ok) (hg : ∀ e, B8 (g e)) (hh : m.halt = false) (h0 : g (ix m.pc) = 135) : Both m g := by
  obtain ⟨r0, r1, r2, r3, r4, r5, r7, sp, pc⟩ := id hm
  cases hf : m.fc
  · exact joinA (m' := (z87_0 m)) hm hh h0 (p87_1 m g _ _) (r87_0 m g) hg
  · exact joinA (m' := (z87_0 m)) hm hh h0 (p87_0 m g _ _) (r87_0 m g) hg
@[simp] def z88_0 (m : Mc) : Mc := { m with fc := decide (255 < m.r7 + m.r0 + 1), fp := par ((m.r7 + m.r0 + 1) % 256), fs := decide (128 ≤ (m.r7 + m.r0 + 1) % 256), fx := decide (15 < m.r7 % 16 + m.r0 % 16 + 1), fz := (m.r7 + m.r0 + 1) % 256 == 0, pc := w16 (m.pc + 1), r7 := (m.r7 + m.r0 + 1) % 256 }
@[simp] def z88_1 (m : Mc) : Mc := { m with fc := decide (255 < m.r7 + m.r0 + 0), fp := par ((m.r7 + m.r0 + 0) % 256), fs := decide (128 ≤ (m.r7 + m.r0 + 0) % 256), fx := decide (15 < m.r7 % 16 + m.r0 % 16 + 0), fz := (m.r7 + m.r0 + 0) % 256 == 0, pc := w16 (m.pc + 1), r7 := (m.r7 + m.r0 + 0) % 256 }
theorem p88_0 : endsAt [0, 1] (Ly.run ctx3 3000 [(22, true), (5, true)] (sP m g 136 b1 b2)) = some (T [m.fc == true, inb m.r7 && inb m.r0], .int .i64 0, 5, hPm (z88_0 m) (memL g)) := by kernel_rfl
theorem p88_1 : endsAt [0, 1] (Ly.run ctx3 3000 [(22, false), (5, true)] (sP m g 136 b1 b2)) = some ([(m.fc == true, false), (inb m.r7 && inb m.r0, true)], .int .i64 0, 5, hPm (z88_1 m) (memL g)) := by kernel_rfl
theorem r88_0 : endsAt [0, 1, 2] (Ly.run ctx3 3000 [(4, true), (16, true)] (sR m g 136)) = some (T [inw m.pc && true, inb m.r7 && inb m.r0], .int .i64 0, 4, hRm { m with fc := decide (255 < m.r7 + m.r0 + cI m.fc), fp := par ((m.r7 + m.r0 + cI m.fc) % 256), fs := decide (128 ≤ (m.r7 + m.r0 + cI m.fc) % 256), fx := decide (15 < m.r7 % 16 + m.r0 % 16 + cI m.fc), fz := (m.r7 + m.r0 + cI m.fc) % 256 == 0, pc := w16 (m.pc + 1), r7 := (m.r7 + m.r0 + cI m.fc) % 256 } (memL g)) := by kernel_rfl
theorem o88 (hm : m.Ok) (hg : ∀ e, B8 (g e)) (hh : m.halt = false) (h0 : g (ix m.pc) = 136) : Both m g := by
  obtain ⟨r0, r1, r2, r3, r4, r5, r7, sp, pc⟩ := id hm
  cases hf : m.fc
  · exact joinA (m' := (z88_1 m)) hm hh h0 (p88_1 m g _ _) (r88_0 m g) hg
  · exact joinA (m' := (z88_0 m)) hm hh h0 (p88_0 m g _ _) (r88_0 m g) hg
@[simp] def z89_0 (m : Mc) : Mc := { m with fc := decide (255 < m.r7 + m.r1 + 1), fp := par ((m.r7 + m.r1 + 1) % 256), fs := decide (128 ≤ (m.r7 + m.r1 + 1) % 256), fx := decide (15 < m.r7 % 16 + m.r1 % 16 + 1), fz := (m.r7 + m.r1 + 1) % 256 == 0, pc := w16 (m.pc + 1), r7 := (m.r7 + m.r1 + 1) % 256 }
@[simp] def z89_1 (m : Mc) : Mc := { m with fc := decide (255 < m.r7 + m.r1 + 0), fp := par ((m.r7 + m.r1 + 0) % 256), fs := decide (128 ≤ (m.r7 + m.r1 + 0) % 256), fx := decide (15 < m.r7 % 16 + m.r1 % 16 + 0), fz := (m.r7 + m.r1 + 0) % 256 == 0, pc := w16 (m.pc + 1), r7 := (m.r7 + m.r1 + 0) % 256 }
theorem p89_0 : endsAt [0, 1] (Ly.run ctx3 3000 [(22, true), (5, true)] (sP m g 137 b1 b2)) = some (T [m.fc == true, inb m.r7 && inb m.r1], .int .i64 0, 5, hPm (z89_0 m) (memL g)) := by kernel_rfl
theorem p89_1 : endsAt [0, 1] (Ly.run ctx3 3000 [(22, false), (5, true)] (sP m g 137 b1 b2)) = some ([(m.fc == true, false), (inb m.r7 && inb m.r1, true)], .int .i64 0, 5, hPm (z89_1 m) (memL g)) := by kernel_rfl
theorem r89_0 : endsAt [0, 1, 2] (Ly.run ctx3 3000 [(4, true), (16, true)] (sR m g 137)) = some (T [inw m.pc && true, inb m.r7 && inb m.r1], .int .i64 0, 4, hRm { m with fc := decide (255 < m.r7 + m.r1 + cI m.fc), fp := par ((m.r7 + m.r1 + cI m.fc) % 256), fs := decide (128 ≤ (m.r7 + m.r1 + cI m.fc) % 256), fx := decide (15 < m.r7 % 16 + m.r1 % 16 + cI m.fc), fz := (m.r7 + m.r1 + cI m.fc) % 256 == 0, pc := w16 (m.pc + 1), r7 := (m.r7 + m.r1 + cI m.fc) % 256 } (memL g)) := by kernel_rfl
theorem o89 (hm : m.Ok) (hg : ∀ e, B8 (g e)) (hh : m.halt = false) (h0 : g (ix m.pc) = 137) : Both m g := by
  obtain ⟨r0, r1, r2, r3, r4, r5, r7, sp, pc⟩ := id hm
  cases hf : m.fc
  · exact joinA (m' := (z89_1 m)) hm hh h0 (p89_1 m g _ _) (r89_0 m g) hg
  · exact joinA (m' := (z89_0 m)) hm hh h0 (p89_0 m g _ _) (r89_0 m g) hg
@[simp] def z8a_0 (m : Mc) : Mc := { m with fc := decide (255 < m.r7 + m.r2 + 1), fp := par ((m.r7 + m.r2 + 1) % 256), fs := decide (128 ≤ (m.r7 + m.r2 + 1) % 256), fx := decide (15 < m.r7 % 16 + m.r2 % 16 + 1), fz := (m.r7 + m.r2 + 1) % 256 == 0, pc := w16 (m.pc + 1), r7 := (m.r7 + m.r2 + 1) % 256 }
@[simp] def z8a_1 (m : Mc) : Mc := { m with fc := decide (255 < m.r7 + m.r2 + 0), fp := par ((m.r7 + m.r2 + 0) % 256), fs := decide (128 ≤ (m.r7 + m.r2 + 0) % 256), fx := decide (15 < m.r7 % 16 + m.r2 % 16 + 0), fz := (m.r7 + m.r2 + 0) % 256 == 0, pc := w16 (m.pc + 1), r7 := (m.r7 + m.r2 + 0) % 256 }
theorem p8a_0 : endsAt [0, 1] (Ly.run ctx3 3000 [(22, true), (5, true)] (sP m g 138 b1 b2)) = some (T [m.fc == true, inb m.r7 && inb m.r2], .int .i64 0, 5, hPm (z8a_0 m) (memL g)) := by kernel_rfl
theorem p8a_1 : endsAt [0, 1] (Ly.run ctx3 3000 [(22, false), (5, true)] (sP m g 138 b1 b2)) = some ([(m.fc == true, false), (inb m.r7 && inb m.r2, true)], .int .i64 0, 5, hPm (z8a_1 m) (memL g)) := by kernel_rfl
theorem r8a_0 : endsAt [0, 1, 2] (Ly.run ctx3 3000 [(4, true), (16, true)] (sR m g 138)) = some (T [inw m.pc && true, inb m.r7 && inb m.r2], .int .i64 0, 4, hRm { m with fc := decide (255 < m.r7 + m.r2 + cI m.fc), fp := par ((m.r7 + m.r2 + cI m.fc) % 256), fs := decide (128 ≤ (m.r7 + m.r2 + cI m.fc) % 256), fx := decide (15 < m.r7 % 16 + m.r2 % 16 + cI m.fc), fz := (m.r7 + m.r2 + cI m.fc) % 256 == 0, pc := w16 (m.pc + 1), r7 := (m.r7 + m.r2 + cI m.fc) % 256 } (memL g)) := by kernel_rfl
theorem o8a (hm : m.Ok) (hg : ∀ e, B8 (g e)) (hh : m.halt = false) (h0 : g (ix m.pc) = 138) : Both m g := by
  obtain ⟨r0, r1, r2, r3, r4, r5, r7, sp, pc⟩ := id hm
  cases hf : m.fc
  · exact joinA (m' := (z8a_1 m)) hm hh h0 (p8a_1 m g _ _) (r8a_0 m g) hg
  · exact joinA (m' := (z8a_0 m)) hm hh h0 (p8a_0 m g _ _) (r8a_0 m g) hg
@[simp] def z8b_0 (m : Mc) : Mc := { m with fc := decide (255 < m.r7 + m.r3 + 1), fp := par ((m.r7 + m.r3 + 1) % 256), fs := decide (128 ≤ (m.r7 + m.r3 + 1) % 256), fx := decide (15 < m.r7 % 16 + m.r3 % 16 + 1), fz := (m.r7 + m.r3 + 1) % 256 == 0, pc := w16 (m.pc + 1), r7 := (m.r7 + m.r3 + 1) % 256 }
@[simp] def z8b_1 (m : Mc) : Mc := { m with fc := decide (255 < m.r7 + m.r3 + 0), fp := par ((m.r7 + m.r3 + 0) % 256), fs := decide (128 ≤ (m.r7 + m.r3 + 0) % 256), fx := decide (15 < m.r7 % 16 + m.r3 % 16 + 0), fz := (m.r7 + m.r3 + 0) % 256 == 0, pc := w16 (m.pc + 1), r7 := (m.r7 + m.r3 + 0) % 256 }
theorem p8b_0 : endsAt [0, 1] (Ly.run ctx3 3000 [(22, true), (5, true)] (sP m g 139 b1 b2)) = some (T [m.fc == true, inb m.r7 && inb m.r3], .int .i64 0, 5, hPm (z8b_0 m) (memL g)) := by kernel_rfl
theorem p8b_1 : endsAt [0, 1] (Ly.run ctx3 3000 [(22, false), (5, true)] (sP m g 139 b1 b2)) = some ([(m.fc == true, false), (inb m.r7 && inb m.r3, true)], .int .i64 0, 5, hPm (z8b_1 m) (memL g)) := by kernel_rfl
theorem r8b_0 : endsAt [0, 1, 2] (Ly.run ctx3 3000 [(4, true), (16, true)] (sR m g 139)) = some (T [inw m.pc && true, inb m.r7 && inb m.r3], .int .i64 0, 4, hRm { m with fc := decide (255 < m.r7 + m.r3 + cI m.fc), fp := par ((m.r7 + m.r3 + cI m.fc) % 256), fs := decide (128 ≤ (m.r7 + m.r3 + cI m.fc) % 256), fx := decide (15 < m.r7 % 16 + m.r3 % 16 + cI m.fc), fz := (m.r7 + m.r3 + cI m.fc) % 256 == 0, pc := w16 (m.pc + 1), r7 := (m.r7 + m.r3 + cI m.fc) % 256 } (memL g)) := by kernel_rfl
theorem o8b (hm : m.Ok) (hg : ∀ e, B8 (g e)) (hh : m.halt = false) (h0 : g (ix m.pc) = 139) : Both m g := by
  obtain ⟨r0, r1, r2, r3, r4, r5, r7, sp, pc⟩ := id hm
  cases hf : m.fc
  · exact joinA (m' := (z8b_1 m)) hm hh h0 (p8b_1 m g _ _) (r8b_0 m g) hg
  · exact joinA (m' := (z8b_0 m)) hm hh h0 (p8b_0 m g _ _) (r8b_0 m g) hg
@[simp] def z8c_0 (m : Mc) : Mc := { m with fc := decide (255 < m.r7 + m.r4 + 1), fp := par ((m.r7 + m.r4 + 1) % 256), fs := decide (128 ≤ (m.r7 + m.r4 + 1) % 256), fx := decide (15 < m.r7 % 16 + m.r4 % 16 + 1), fz := (m.r7 + m.r4 + 1) % 256 == 0, pc := w16 (m.pc + 1), r7 := (m.r7 + m.r4 + 1) % 256 }
@[simp] def z8c_1 (m : Mc) : Mc := { m with fc := decide (255 < m.r7 + m.r4 + 0), fp := par ((m.r7 + m.r4 + 0) % 256), fs := decide (128 ≤ (m.r7 + m.r4 + 0) % 256), fx := decide (15 < m.r7 % 16 + m.r4 % 16 + 0), fz := (m.r7 + m.r4 + 0) % 256 == 0, pc := w16 (m.pc + 1), r7 := (m.r7 + m.r4 + 0) % 256 }
theorem p8c_0 : endsAt [0, 1] (Ly.run ctx3 3000 [(22, true), (5, true)] (sP m g 140 b1 b2)) = some (T [m.fc == true, inb m.r7 && inb m.r4], .int .i64 0, 5, hPm (z8c_0 m) (memL g)) := by kernel_rfl
theorem p8c_1 : endsAt [0, 1] (Ly.run ctx3 3000 [(22, false), (5, true)] (sP m g 140 b1 b2)) = some ([(m.fc == true, false), (inb m.r7 && inb m.r4, true)], .int .i64 0, 5, hPm (z8c_1 m) (memL g)) := by kernel_rfl
theorem r8c_0 : endsAt [0, 1, 2] (Ly.run ctx3 3000 [(4, true), (16, true)] (sR m g 140)) = some (T [inw m.pc && true, inb m.r7 && inb m.r4], .int .i64 0, 4, hRm { m with fc := decide (255 < m.r7 + m.r4 + cI m.fc), fp := par ((m.r7 + m.r4 + cI m.fc) % 256), fs := decide (128 ≤ (m.r7 + m.r4 + cI m.fc) % 256), fx := decide (15 < m.r7 % 16 + m.r4 % 16 + cI m.fc), fz := (m.r7 + m.r4 + cI m.fc) % 256 == 0, pc := w16 (m.pc + 1), r7 := (m.r7 + m.r4 + cI m.fc) % 256 } (memL g)) := by kernel_rfl
theorem o8c (hm : m.Ok) (hg : ∀ e, B8 (g e)) (hh : m.halt = false) (h0 : g (ix m.pc) = 140) : Both m g := by
  obtain ⟨r0, r1, r2, r3, r4, r5, r7, sp, pc⟩ := id hm
  cases hf : m.fc
  · exact joinA (m' := (z8c_1 m)) hm hh h0 (p8c_1 m g _ _) (r8c_0 m g) hg
  · exact joinA (m' := (z8c_0 m)) hm hh h0 (p8c_0 m g _ _) (r8c_0 m g) hg
@[simp] def z8d_0 (m : Mc) : Mc := { m with fc := decide (255 < m.r7 + m.r5 + 1), fp := par ((m.r7 + m.r5 + 1) % 256), fs := decide (128 ≤ (m.r7 + m.r5 + 1) % 256), fx := decide (15 < m.r7 % 16 + m.r5 % 16 + 1), fz := (m.r7 + m.r5 + 1) % 256 == 0, pc := w16 (m.pc + 1), r7 := (m.r7 + m.r5 + 1) % 256 }
@[simp] def z8d_1 (m : Mc) : Mc := { m with fc := decide (255 < m.r7 + m.r5 + 0), fp := par ((m.r7 + m.r5 + 0) % 256), fs := decide (128 ≤ (m.r7 + m.r5 + 0) % 256), fx := decide (15 < m.r7 % 16 + m.r5 % 16 + 0), fz := (m.r7 + m.r5 + 0) % 256 == 0, pc := w16 (m.pc + 1), r7 := (m.r7 + m.r5 + 0) % 256 }
theorem p8d_0 : endsAt [0, 1] (Ly.run ctx3 3000 [(22, true), (5, true)] (sP m g 141 b1 b2)) = some (T [m.fc == true, inb m.r7 && inb m.r5], .int .i64 0, 5, hPm (z8d_0 m) (memL g)) := by kernel_rfl
theorem p8d_1 : endsAt [0, 1] (Ly.run ctx3 3000 [(22, false), (5, true)] (sP m g 141 b1 b2)) = some ([(m.fc == true, false), (inb m.r7 && inb m.r5, true)], .int .i64 0, 5, hPm (z8d_1 m) (memL g)) := by kernel_rfl
theorem r8d_0 : endsAt [0, 1, 2] (Ly.run ctx3 3000 [(4, true), (16, true)] (sR m g 141)) = some (T [inw m.pc && true, inb m.r7 && inb m.r5], .int .i64 0, 4, hRm { m with fc := decide (255 < m.r7 + m.r5 + cI m.fc), fp := par ((m.r7 + m.r5 + cI m.fc) % 256), fs := decide (128 ≤ (m.r7 + m.r5 + cI m.fc) % 256), fx := decide (15 < m.r7 % 16 + m.r5 % 16 + cI m.fc), fz := (m.r7 + m.r5 + cI m.fc) % 256 == 0, pc := w16 (m.pc + 1), r7 := (m.r7 + m.r5 + cI m.fc) % 256 } (memL g)) := by kernel_rfl
theorem o8d (hm : m.Ok) (hg : ∀ e, B8 (g e)) (hh : m.halt = false) (h0 : g (ix m.pc) = 141) : Both m g := by
  obtain ⟨r0, r1, r2, r3, r4, r5, r7, sp, pc⟩ := id hm
  cases hf : m.fc
  · exact joinA (m' := (z8d_1 m)) hm hh h0 (p8d_1 m g _ _) (r8d_0 m g) hg
  · exact joinA (m' := (z8d_0 m)) hm hh h0 (p8d_0 m g _ _) (r8d_0 m g) hg
@[simp] def z8e_0 (m : Mc) (g : Nat → Int) : Mc := { m with fc := decide (255 < m.r7 + g (ix (or16 (w16 (w16 m.r4 * 256)) (w16 m.r5))) + 1), fp := par ((m.r7 + g (ix (or16 (w16 (w16 m.r4 * 256)) (w16 m.r5))) + 1) % 256), fs := decide (128 ≤ (m.r7 + g (ix (or16 (w16 (w16 m.r4 * 256)) (w16 m.r5))) + 1) % 256), fx := decide (15 < m.r7 % 16 + g (ix (or16 (w16 (w16 m.r4 * 256)) (w16 m.r5))) % 16 + 1), fz := (m.r7 + g (ix (or16 (w16 (w16 m.r4 * 256)) (w16 m.r5))) + 1) % 256 == 0, pc := w16 (m.pc + 1), r7 := (m.r7 + g (ix (or16 (w16 (w16 m.r4 * 256)) (w16 m.r5))) + 1) % 256 }
@[simp] def z8e_1 (m : Mc) (g : Nat → Int) : Mc := { m with fc := decide (255 < m.r7 + g (ix (or16 (w16 (w16 m.r4 * 256)) (w16 m.r5))) + 0), fp := par ((m.r7 + g (ix (or16 (w16 (w16 m.r4 * 256)) (w16 m.r5))) + 0) % 256), fs := decide (128 ≤ (m.r7 + g (ix (or16 (w16 (w16 m.r4 * 256)) (w16 m.r5))) + 0) % 256), fx := decide (15 < m.r7 % 16 + g (ix (or16 (w16 (w16 m.r4 * 256)) (w16 m.r5))) % 16 + 0), fz := (m.r7 + g (ix (or16 (w16 (w16 m.r4 * 256)) (w16 m.r5))) + 0) % 256 == 0, pc := w16 (m.pc + 1), r7 := (m.r7 + g (ix (or16 (w16 (w16 m.r4 * 256)) (w16 m.r5))) + 0) % 256 }
theorem p8e_0 : endsAt [0, 1] (Ly.run ctx3 3000 [(28, true), (0, true), (13, true), (0, true), (1, true), (5, true)] (sP m g 142 b1 b2)) = some (T [(true && lt16 (or16 (w16 (w16 m.r4 * 256)) (w16 m.r5))), bl (ix (or16 (w16 (w16 m.r4 * 256)) (w16 m.r5))), (true && lt16 (or16 (w16 (w16 m.r4 * 256)) (w16 m.r5))), bl (ix (or16 (w16 (w16 m.r4 * 256)) (w16 m.r5))), m.fc == true, inb m.r7 && inb (g (ix (or16 (w16 (w16 m.r4 * 256)) (w16 m.r5))))], .int .i64 0, 5, hPm (z8e_0 m g) (memL g)) := by kernel_rfl
theorem p8e_1 : endsAt [0, 1] (Ly.run ctx3 3000 [(28, true), (0, true), (13, true), (0, true), (1, false), (5, true)] (sP m g 142 b1 b2)) = some ([((true && lt16 (or16 (w16 (w16 m.r4 * 256)) (w16 m.r5))), true), (bl (ix (or16 (w16 (w16 m.r4 * 256)) (w16 m.r5))), true), ((true && lt16 (or16 (w16 (w16 m.r4 * 256)) (w16 m.r5))), true), (bl (ix (or16 (w16 (w16 m.r4 * 256)) (w16 m.r5))), true), (m.fc == true, false), (inb m.r7 && inb (g (ix (or16 (w16 (w16 m.r4 * 256)) (w16 m.r5)))), true)], .int .i64 0, 5, hPm (z8e_1 m g) (memL g)) := by kernel_rfl
theorem r8e_0 : endsAt [0, 1, 2] (Ly.run ctx3 3000 [(4, true), (12, true), (0, true), (0, true), (9, true)] (sR m g 142)) = some (T [inw m.pc && true, inb m.r4 && inb m.r5, rg (256 * m.r4 + m.r5), bl (ix (256 * m.r4 + m.r5)), inb m.r7 && inb (g (ix (256 * m.r4 + m.r5)))], .int .i64 0, 4, hRm { m with fc := decide (255 < m.r7 + g (ix (256 * m.r4 + m.r5)) + cI m.fc), fp := par ((m.r7 + g (ix (256 * m.r4 + m.r5)) + cI m.fc) % 256), fs := decide (128 ≤ (m.r7 + g (ix (256 * m.r4 + m.r5)) + cI m.fc) % 256), fx := decide (15 < m.r7 % 16 + g (ix (256 * m.r4 + m.r5)) % 16 + cI m.fc), fz := (m.r7 + g (ix (256 * m.r4 + m.r5)) + cI m.fc) % 256 == 0, pc := w16 (m.pc + 1), r7 := (m.r7 + g (ix (256 * m.r4 + m.r5)) + cI m.fc) % 256 } (memL g)) := by kernel_rfl
theorem o8e (hm : m.Ok) (hg : ∀ e, B8 (g e)) (hh : m.halt = false) (h0 : g (ix m.pc) = 142) : Both m g := by
  obtain ⟨r0, r1, r2, r3, r4, r5, r7, sp, pc⟩ := id hm
  cases hf : m.fc
  · exact joinA (m' := (z8e_1 m g)) hm hh h0 (p8e_1 m g _ _) (r8e_0 m g) hg
  · exact joinA (m' := (z8e_0 m g)) hm hh h0 (p8e_0 m g _ _) (r8e_0 m g) hg
@[simp] def z8f_0 (m : Mc) : Mc := { m with fc := decide (255 < m.r7 + m.r7 + 1), fp := par ((m.r7 + m.r7 + 1) % 256), fs := decide (128 ≤ (m.r7 + m.r7 + 1) % 256), fx := decide (15 < m.r7 % 16 + m.r7 % 16 + 1), fz := (m.r7 + m.r7 + 1) % 256 == 0, pc := w16 (m.pc + 1), r7 := (m.r7 + m.r7 + 1) % 256 }
@[simp] def z8f_1 (m : Mc) : Mc := { m with fc := decide (255 < m.r7 + m.r7 + 0), fp := par ((m.r7 + m.r7 + 0) % 256), fs := decide (128 ≤ (m.r7 + m.r7 + 0) % 256), fx := decide (15 < m.r7 % 16 + m.r7 % 16 + 0), fz := (m.r7 + m.r7 + 0) % 256 == 0, pc := w16 (m.pc + 1), r7 := (m.r7 + m.r7 + 0) % 256 }
theorem p8f_0 : endsAt [0, 1] (Ly.run ctx3 3000 [(22, true), (5, true)] (sP m g 143 b1 b2)) = some (T [m.fc == true, inb m.r7 && inb m.r7], .int .i64 0, 5, hPm (z8f_0 m) (memL g)) := by kernel_rfl
theorem p8f_1 : endsAt [0, 1] (Ly.run ctx3 3000 [(22, false), (5, true)] (sP m g 143 b1 b2)) = some ([(m.fc == true, false), (inb m.r7 && inb m.r7, true)], .int .i64 0, 5, hPm (z8f_1 m) (memL g)) := by kernel_rfl
theorem r8f_0 : endsAt [0, 1, 2] (Ly.run ctx3 3000 [(4, true), (16, true)] (sR m g 143)) = some (T [inw m.pc && true, inb m.r7 && inb m.r7], .int .i64 0, 4, hRm { m with fc := decide (255 < m.r7 + m.r7 + cI m.fc), fp := par ((m.r7 + m.r7 + cI m.fc) % 256), fs := decide (128 ≤ (m.r7 + m.r7 + cI m.fc) % 256), fx := decide (15 < m.r7 % 16 + m.r7 % 16 + cI m.fc), fz := (m.r7 + m.r7 + cI m.fc) % 256 == 0, pc := w16 (m.pc + 1), r7 := (m.r7 + m.r7 + cI m.fc) % 256 } (memL g)) := by kernel_rfl
theorem o8f (hm : m.Ok) (hg : ∀ e, B8 (g e)) (hh : m.halt = false) (h0 : g (ix m.pc) = 143) : Both m g := by
  obtain ⟨r0, r1, r2, r3, r4, r5, r7, sp, pc⟩ := id hm
  cases hf : m.fc
  · exact joinA (m' := (z8f_1 m)) hm hh h0 (p8f_1 m g _ _) (r8f_0 m g) hg
  · exact joinA (m' := (z8f_0 m)) hm hh h0 (p8f_0 m g _ _) (r8f_0 m g) hg
theorem blk8 (m : Mc) (g : Nat → Int) (hm : m.Ok) (hg : ∀ e, B8 (g e)) (hh : m.halt = false) (h1 : 128 ≤ g (ix m.pc)) (h2 : g (ix m.pc) < 144) : Both m g := by
  have h : g (ix m.pc) = 128 ∨ g (ix m.pc) = 129 ∨ g (ix m.pc) = 130 ∨ g (ix m.pc) = 131 ∨ g (ix m.pc) = 132 ∨ g (ix m.pc) = 133 ∨ g (ix m.pc) = 134 ∨ g (ix m.pc) = 135 ∨ g (ix m.pc) = 136 ∨ g (ix m.pc) = 137 ∨ g (ix m.pc) = 138 ∨ g (ix m.pc) = 139 ∨ g (ix m.pc) = 140 ∨ g (ix m.pc) = 141 ∨ g (ix m.pc) = 142 ∨ g (ix m.pc) = 143 := by omega
  rcases h with h | h | h | h | h | h | h | h | h | h | h | h | h | h | h | h
  · exact o80 m g hm hg hh h
  · exact o81 m g hm hg hh h
  · exact o82 m g hm hg hh h
  · exact o83 m g hm hg hh h
  · exact o84 m g hm hg hh h
  · exact o85 m g hm hg hh h
  · exact o86 m g hm hg hh h
  · exact o87 m g hm hg hh h
  · exact o88 m g hm hg hh h
  · exact o89 m g hm hg hh h
  · exact o8a m g hm hg hh h
  · exact o8b m g hm hg hh h
  · exact o8c m g hm hg hh h
  · exact o8d m g hm hg hh h
  · exact o8e m g hm hg hh h
  · exact o8f m g hm hg hh h
end Go.Proofs.Ytpggoincnebfnaa
namespace Go.Proofs.Ytpggoincnebfnaa
open Go Go.Ly Go.RowKit
variable (m : Mc) (g : Nat → Int) (b1 b2 : Int)
@[simp] def z90_0 (m : Mc) : Mc := { m with fc := decide (m.r7 - m.r0 - 0 < 0), fp := par ((m.r7 - m.r0 - 0) % 256), fs := decide (128 ≤ (m.r7 - m.r0 - 0) % 256), fx := decide (15 < m.r7 % 16 + 15 - m.r0 % 16 + 1), fz := (m.r7 - m.r0 - 0) % 256 == 0, pc := w16 (m.pc + 1), r7 := (m.r7 - m.r0 - 0) % 256 }
theorem p90_0 : endsAt [0, 1] (Ly.run ctx3 3000 [(22, true), (7, true)] (sP m g 144 b1 b2)) = some (T [m.fc == true, inb m.r7 && inb m.r0], .int .i64 0, 5, hPm (z90_0 m) (memL g)) := by kernel_rfl
theorem p90_1 : endsAt [0, 1] (Ly.run ctx3 3000 [(22, false), (7, true)] (sP m g 144 b1 b2)) = some ([(m.fc == true, false), (inb m.r7 && inb m.r0, true)], .int .i64 0, 5, hPm (z90_0 m) (memL g)) := by kernel_rfl
theorem r90_0 : endsAt [0, 1, 2] (Ly.run ctx3 3000 [(4, true), (18, true)] (sR m g 144)) = some (T [inw m.pc && true, inb m.r7 && inb m.r0], .int .i64 0, 4, hRm (z90_0 m) (memL g)) := by kernel_rfl
theorem o90 (hm : m.Ok) (hg : ∀ e, B8 (g e)) (hh : m.halt = false) (h0 : g (ix m.pc) = 144) : Both m g := by
  obtain ⟨r0, r1, r2, r3, r4, r5, r7, sp, pc⟩ := id hm
  cases hf : m.fc
  · exact joinA (m' := (z90_0 m)) hm hh h0 (p90_1 m g _ _) (r90_0 m g) hg
  · exact joinA (m' := (z90_0 m)) hm hh h0 (p90_0 m g _ _) (r90_0 m g) hg
@[simp] def z91_0 (m : Mc) : Mc := { m with fc := decide (m.r7 - m.r1 - 0 < 0), fp := par ((m.r7 - m.r1 - 0) % 256), fs := decide (128 ≤ (m.r7 - m.r1 - 0) % 256), fx := decide (15 < m.r7 % 16 + 15 - m.r1 % 16 + 1), fz := (m.r7 - m.r1 - 0) % 256 == 0, pc := w16 (m.pc + 1), r7 := (m.r7 - m.r1 - 0) % 256 }
theorem p91_0 : endsAt [0, 1] (Ly.run ctx3 3000 [(22, true), (7, true)] (sP m g 145 b1 b2)) = some (T [m.fc == true, inb m.r7 && inb m.r1], .int .i64 0, 5, hPm (z91_0 m) (memL g)) := by kernel_rfl
theorem p91_1 : endsAt [0, 1] (Ly.run ctx3 3000 [(22, false), (7, true)] (sP m g 145 b1 b2)) = some ([(m.fc == true, false), (inb m.r7 && inb m.r1, true)], .int .i64 0, 5, hPm (z91_0 m) (memL g)) := by kernel_rfl
theorem r91_0 : endsAt [0, 1, 2] (Ly.run ctx3 3000 [(4, true), (18, true)] (sR m g 145)) = some (T [inw m.pc && true, inb m.r7 && inb m.r1], .int .i64 0, 4, hRm (z91_0 m) (memL g)) := by kernel_rfl
theorem o91 (hm : m.Ok) (hg : ∀ e, B8 (g e)) (hh : m.halt = false) (h0 : g (ix m.pc) = 145) : Both m g := by
  obtain ⟨r0, r1, r2, r3, r4, r5, r7, sp, pc⟩ := id hm
  cases hf : m.fc
  · exact joinA (m' := (z91_0 m)) hm hh h0 (p91_1 m g _ _) (r91_0 m g) hg
  · exact joinA (m' := (z91_0 m)) hm hh h0 (p91_0 m g _ _) (r91_0 m g) hg
@[simp] def z92_0 (m : Mc) : Mc := { m with fc := decide (m.r7 - m.r2 - 0 < 0), fp := par ((m.r7 - m.r2 - 0) % 256), fs := decide (128 ≤ (m.r7 - m.r2 - 0) % 256), fx := decide (15 < m.r7 % 16 + 15 - m.r2 % 16 + 1), fz := (m.r7 - m.r2 - 0) % 256 == 0, pc := w16 (m.pc + 1), r7 := (m.r7 - m.r2 - 0) % 256 }
theorem p92_0 : endsAt [0, 1] (Ly.run ctx3 3000 [(22, true), (7, true)] (sP m g 146 b1 b2)) = some (T [m.fc == true, inb m.r7 && inb m.r2], .int .i64 0, 5, hPm (z92_0 m) (memL g)) := by kernel_rfl
theorem p92_1 : endsAt [0, 1] (Ly.run ctx3 3000 [(22, false), (7, true)] (sP m g 146 b1 b2)) = some ([(m.fc == true, false), (inb m.r7 && inb m.r2, true)], .int .i64 0, 5, hPm (z92_0 m) (memL g)) := by kernel_rfl
theorem r92_0 : endsAt [0, 1, 2] (Ly.run ctx3 3000 [(4, true), (18, true)] (sR m g 146)) = some (T [inw m.pc && true, inb m.r7 && inb m.r2], .int .i64 0, 4, hRm (z92_0 m) (memL g)) := by kernel_rfl
theorem o92 (hm : m.Ok) (hg : ∀ e, B8 (g e)) (hh : m.halt = false) (h0 : g (ix m.pc) = 146) : Both m g := by
  obtain ⟨r0, r1, r2, r3, r4, r5, r7, sp, pc⟩ := id hm
  cases hf : m.fc
  · exact joinA (m' := (z92_0 m)) hm hh h0 (p92_1 m g _ _) (r92_0 m g) hg
  · exact joinA (m' := (z92_0 m)) hm hh h0 (p92_0 m g _ _) (r92_0 m g) hg
@[simp] def z93_0 (m : Mc) : Mc := { m with fc := decide (m.r7 - m.r3 - 0 < 0), fp := par ((m.r7 - m.r3 - 0) % 256), fs := decide (128 ≤ (m.r7 - m.r3 - 0) % 256), fx := decide (15 < m.r7 % 16 + 15 - m.r3 % 16 + 1), fz := (m.r7 - m.r3 - 0) % 256 == 0, pc := w16 (m.pc + 1), r7 := (m.r7 - m.r3 - 0) % 256 }
theorem p93_0 : endsAt [0, 1] (Ly.run ctx3 3000 [(22, true), (7, true)] (sP m g 147 b1 b2)) = some (T [m.fc == true, inb m.r7 && inb m.r3], .int .i64 0, 5, hPm (z93_0 m) (memL g)) := by kernel_rfl
theorem p93_1 : endsAt [0, 1] (Ly.run ctx3 3000 [(22, false), (7, true)] (sP m g 147 b1 b2)) = some ([(m.fc == true, false), (inb m.r7 && inb m.r3, true)], .int .i64 0, 5, hPm (z93_0 m) (memL g)) := by kernel_rfl
theorem r93_0 : endsAt [0, 1, 2] (Ly.run ctx3 3000 [(4, true), (18, true)] (sR m g 147)) = some (T [inw m.pc && true, inb m.r7 && inb m.r3], .int .i64 0, 4, hRm (z93_0 m) (memL g)) := by kernel_rfl
theorem o93 (hm : m.Ok) (hg : ∀ e, B8 (g e)) (hh : m.halt = false) (h0 : g (ix m.pc) = 147) : Both m g := by
  obtain ⟨r0, r1, r2, r3, r4, r5, r7, sp, pc⟩ := id hm
  cases hf : m.fc
  · exact joinA (m' := (z93_0 m)) hm hh h0 (p93_1 m g _ _) (r93_0 m g) hg
  · exact joinA (m' := (z93_0 m)) hm hh h0 (p93_0 m g _ _) (r93_0 m g) hg
@[simp] def z94_0 (m : Mc) : Mc := { m with fc := decide (m.r7 - m.r4 - 0 < 0), fp := par ((m.r7 - m.r4 - 0) % 256), fs := decide (128 ≤ (m.r7 - m.r4 - 0) % 256), fx := decide (15 < m.r7 % 16 + 15 - m.r4 % 16 + 1), fz := (m.r7 - m.r4 - 0) % 256 == 0, pc := w16 (m.pc + 1), r7 := (m.r7 - m.r4 - 0) % 256 }
theorem p94_0 : endsAt [0, 1] (Ly.run ctx3 3000 [(22, true), (7, true)] (sP m g 148 b1 b2)) = some (T [m.fc == true, inb m.r7 && inb m.r4], .int .i64 0, 5, hPm (z94_0 m) (memL g)) := by kernel_rfl
theorem p94_1 : endsAt [0, 1] (Ly.run ctx3 3000 [(22, false), (7, true)] (sP m g 148 b1 b2)) = some ([(m.fc == true, false), (inb m.r7 && inb m.r4, true)], .int .i64 0, 5, hPm (z94_0 m) (memL g)) := by kernel_rfl
theorem r94_0 : endsAt [0, 1, 2] (Ly.run ctx3 3000 [(4, true), (18, true)] (sR m g 148)) = some (T [inw m.pc && true, inb m.r7 && inb m.r4], .int .i64 0, 4, hRm (z94_0 m) (memL g)) := by kernel_rfl
theorem o94 (hm : m.Ok) (hg : ∀ e, B8 (g e)) (hh : m.halt = false) (h0 : g (ix m.pc) = 148) : Both m g := by
  obtain ⟨r0, r1, r2, r3, r4, r5, r7, sp, pc⟩ := id hm
  cases hf : m.fc
  · exact joinA (m' := (z94_0 m)) hm hh h0 (p94_1 m g _ _) (r94_0 m g) hg
  · exact joinA (m' := (z94_0 m)) hm hh h0 (p94_0 m g _ _) (r94_0 m g) hg
@[simp] def z95_0 (m : Mc) : Mc := { m with fc := decide (m.r7 - m.r5 - 0 < 0), fp := par ((m.r7 - m.r5 - 0) % 256), fs := decide (128 ≤ (m.r7 - m.r5 - 0) % 256), fx := decide (15 < m.r7 % 16 + 15 - m.r5 % 16 + 1), fz := (m.r7 - m.r5 - 0) % 256 == 0, pc := w16 (m.pc + 1), r7 := (m.r7 - m.r5 - 0) % 256 }
theorem p95_0 : endsAt [0, 1] (Ly.run ctx3 3000 [(22, true), (7, true)] (sP m g 149 b1 b2)) = some (T [m.fc == true, inb m.r7 && inb m.r5], .int .i64 0, 5, hPm (z95_0 m) (memL g)) := by kernel_rfl
theorem p95_1 : endsAt [0, 1] (Ly.run ctx3 3000 [(22, false), (7, true)] (sP m g 149 b1 b2)) = some ([(m.fc == true, false), (inb m.r7 && inb m.r5, true)], .int .i64 0, 5, hPm (z95_0 m) (memL g)) := by kernel_rfl
theorem r95_0 : endsAt [0, 1, 2] (Ly.run ctx3 3000 [(4, true), (18, true)] (sR m g 149)) = some (T [inw m.pc && true, inb m.r7 && inb m.r5], .int .i64 0, 4, hRm (z95_0 m) (memL g)) := by kernel_rfl
theorem o95 (hm : m.Ok) (hg : ∀ e, B8 (g e)) (hh : m.halt = false) (h0 : g (ix m.pc) = 149) : Both m g := by
  obtain ⟨r0, r1, r2, r3, r4, r5, r7, sp, pc⟩ := id hm
  cases hf : m.fc
  · exact joinA (m' := (z95_0 m)) hm hh h0 (p95_1 m g _ _) (r95_0 m g) hg
  · exact joinA (m' := (z95_0 m)) hm hh h0 (p95_0 m g _ _) (r95_0 m g) hg
@[simp] def z96_0 (m : Mc) (g : Nat → Int) : Mc := { m with fc := decide (m.r7 - g (ix (or16 (w16 (w16 m.r4 * 256)) (w16 m.r5))) - 0 < 0), fp := par ((m.r7 - g (ix (or16 (w16 (w16 m.r4 * 256)) (w16 m.r5))) - 0) % 256), fs := decide (128 ≤ (m.r7 - g (ix (or16 (w16 (w16 m.r4 * 256)) (w16 m.r5))) - 0) % 256), fx := decide (15 < m.r7 % 16 + 15 - g (ix (or16 (w16 (w16 m.r4 * 256)) (w16 m.r5))) % 16 + 1), fz := (m.r7 - g (ix (or16 (w16 (w16 m.r4 * 256)) (w16 m.r5))) - 0) % 256 == 0, pc := w16 (m.pc + 1), r7 := (m.r7 - g (ix (or16 (w16 (w16 m.r4 * 256)) (w16 m.r5))) - 0) % 256 }
theorem p96_0 : endsAt [0, 1] (Ly.run ctx3 3000 [(28, true), (0, true), (13, true), (0, true), (1, true), (7, true)] (sP m g 150 b1 b2)) = some (T [(true && lt16 (or16 (w16 (w16 m.r4 * 256)) (w16 m.r5))), bl (ix (or16 (w16 (w16 m.r4 * 256)) (w16 m.r5))), (true && lt16 (or16 (w16 (w16 m.r4 * 256)) (w16 m.r5))), bl (ix (or16 (w16 (w16 m.r4 * 256)) (w16 m.r5))), m.fc == true, inb m.r7 && inb (g (ix (or16 (w16 (w16 m.r4 * 256)) (w16 m.r5))))], .int .i64 0, 5, hPm (z96_0 m g) (memL g)) := by kernel_rfl
theorem p96_1 : endsAt [0, 1] (Ly.run ctx3 3000 [(28, true), (0, true), (13, true), (0, true), (1, false), (7, true)] (sP m g 150 b1 b2)) = some ([((true && lt16 (or16 (w16 (w16 m.r4 * 256)) (w16 m.r5))), true), (bl (ix (or16 (w16 (w16 m.r4 * 256)) (w16 m.r5))), true), ((true && lt16 (or16 (w16 (w16 m.r4 * 256)) (w16 m.r5))), true), (bl (ix (or16 (w16 (w16 m.r4 * 256)) (w16 m.r5))), true), (m.fc == true, false), (inb m.r7 && inb (g (ix (or16 (w16 (w16 m.r4 * 256)) (w16 m.r5)))), true)], .int .i64 0, 5, hPm (z96_0 m g) (memL g)) := by kernel_rfl
theorem r96_0 : endsAt [0, 1, 2] (Ly.run ctx3 3000 [(4, true), (12, true), (0, true), (0, true), (11, true)] (sR m g 150)) = some (T [inw m.pc && true, inb m.r4 && inb m.r5, rg (256 * m.r4 + m.r5), bl (ix (256 * m.r4 + m.r5)), inb m.r7 && inb (g (ix (256 * m.r4 + m.r5)))], .int .i64 0, 4, hRm { m with fc := decide (m.r7 - g (ix (256 * m.r4 + m.r5)) - 0 < 0), fp := par ((m.r7 - g (ix (256 * m.r4 + m.r5)) - 0) % 256), fs := decide (128 ≤ (m.r7 - g (ix (256 * m.r4 + m.r5)) - 0) % 256), fx := decide (15 < m.r7 % 16 + 15 - g (ix (256 * m.r4 + m.r5)) % 16 + 1), fz := (m.r7 - g (ix (256 * m.r4 + m.r5)) - 0) % 256 == 0, pc := w16 (m.pc + 1), r7 := (m.r7 - g (ix (256 * m.r4 + m.r5)) - 0) % 256 } (memL g)) := by kernel_rfl
theorem o96 (hm : m.Ok) (hg : ∀ e, B8 (g e)) (hh : m.halt = false) (h0 : g (ix m.pc) = 150) : Both m g := by
  obtain ⟨r0, r1, r2, r3, r4, r5, r7, sp, pc⟩ := id hm
  cases hf : m.fc
  · exact joinA (m' := (z96_0 m g)) hm hh h0 (p96_1 m g _ _) (r96_0 m g) hg
  · exact joinA (m' := (z96_0 m g)) hm hh h0 (p96_0 m g _ _) (r96_0 m g) hg
@[simp] def z97_0 (m : Mc) : Mc := { m with fc := decide (m.r7 - m.r7 - 0 < 0), fp := par ((m.r7 - m.r7 - 0) % 256), fs := decide (128 ≤ (m.r7 - m.r7 - 0) % 256), fx := decide (15 < m.r7 % 16 + 15 - m.r7 % 16 + 1), fz := (m.r7 - m.r7 - 0) % 256 == 0, pc := w16 (m.pc + 1), r7 := (m.r7 - m.r7 - 0) % 256 }
theorem p97_0 : endsAt [0, 1] (Ly.run ctx3 3000 [(22, true), (7, true)] (sP m g 151 b1 b2)) = some (T [m.fc == true, inb m.r7 && inb m.r7], .int .i64 0, 5, hPm (z97_0 m) (memL g)) := by kernel_rfl
theorem p97_1 : endsAt [0, 1] (Ly.run ctx3 3000 [(22, false), (7, true)] (sP m g 151 b1 b2)) = some ([(m.fc == true, false), (inb m.r7 && inb m.r7, true)], .int .i64 0, 5, hPm (z97_0 m) (memL g)) := by kernel_rfl
theorem r97_0 : endsAt [0, 1, 2] (Ly.run ctx3 3000 [(4, true), (18, true)] (sR m g 151)) = some (T [inw m.pc && true, inb m.r7 && inb m.r7], .int .i64 0, 4, hRm (z97_0 m) (memL g)) := by kernel_rfl
theorem o97 (hm : m.Ok) (hg : ∀ e, B8 (g e)) (hh : m.halt = false) (h0 : g (ix m.pc) = 151) : Both m g := by
  obtain ⟨r0, r1, r2, r3, r4, r5, r7, sp, pc⟩ := id hm
  cases hf : m.fc
  · exact joinA (m' := (z97_0 m)) hm hh h0 (p97_1 m g _ _) (r97_0 m g) hg
  · exact joinA (m' := (z97_0 m)) hm hh h0 (p97_0 m g _ _) (r97_0 m g) hg
@[simp] def z98_0 (m : Mc) : Mc := { m with fc := decide (m.r7 - m.r0 - 1 < 0), fp := par ((m.r7 - m.r0 - 1) % 256), fs := decide (128 ≤ (m.r7 - m.r0 - 1) % 256), fx := decide (15 < m.r7 % 16 + 15 - m.r0 % 16 + 0), fz := (m.r7 - m.r0 - 1) % 256 == 0, pc := w16 (m.pc + 1), r7 := (m.r7 - m.r0 - 1) % 256 }
@[simp] def z98_1 (m : Mc) : Mc := { m with fc := decide (m.r7 - m.r0 - 0 < 0), fp := par ((m.r7 - m.r0 - 0) % 256), fs := decide (128 ≤ (m.r7 - m.r0 - 0) % 256), fx := decide (15 < m.r7 % 16 + 15 - m.r0 % 16 + 1), fz := (m.r7 - m.r0 - 0) % 256 == 0, pc := w16 (m.pc + 1), r7 := (m.r7 - m.r0 - 0) % 256 }
theorem p98_0 : endsAt [0, 1] (Ly.run ctx3 3000 [(22, true), (7, true)] (sP m g 152 b1 b2)) = some (T [m.fc == true, inb m.r7 && inb m.r0], .int .i64 0, 5, hPm (z98_0 m) (memL g)) := by kernel_rfl
theorem p98_1 : endsAt [0, 1] (Ly.run ctx3 3000 [(22, false), (7, true)] (sP m g 152 b1 b2)) = some ([(m.fc == true, false), (inb m.r7 && inb m.r0, true)], .int .i64 0, 5, hPm (z98_1 m) (memL g)) := by kernel_rfl
theorem r98_0 : endsAt [0, 1, 2] (Ly.run ctx3 3000 [(4, true), (19, true)] (sR m g 152)) = some (T [inw m.pc && true, inb m.r7 && inb m.r0], .int .i64 0, 4, hRm { m with fc := decide (m.r7 - m.r0 - cI m.fc < 0), fp := par ((m.r7 - m.r0 - cI m.fc) % 256), fs := decide (128 ≤ (m.r7 - m.r0 - cI m.fc) % 256), fx := decide (15 < m.r7 % 16 + 15 - m.r0 % 16 + cI !m.fc), fz := (m.r7 - m.r0 - cI m.fc) % 256 == 0, pc := w16 (m.pc + 1), r7 := (m.r7 - m.r0 - cI m.fc) % 256 } (memL g)) := by kernel_rfl
theorem o98 (hm : m.Ok) (hg : ∀ e, B8 (g e)) (hh : m.halt = false) (h0 : g (ix m.pc) = 152) : Both m g := by
  obtain ⟨r0, r1, r2, r3, r4, r5, r7, sp, pc⟩ := id hm
  cases hf : m.fc
  · exact joinA (m' := (z98_1 m)) hm hh h0 (p98_1 m g _ _) (r98_0 m g) hg
  · exact joinA (m' := (z98_0 m)) hm hh h0 (p98_0 m g _ _) (r98_0 m g) hg
@[simp] def z99_0 (m : Mc) : Mc := { m with fc := decide (m.r7 - m.r1 - 1 < 0), fp := par ((m.r7 - m.r1 - 1) % 256), fs := decide (128 ≤ (m.r7 - m.r1 - 1) % 256), fx := decide (15 < m.r7 % 16 + 15 - m.r1 % 16 + 0), fz := (m.r7 - m.r1 - 1) % 256 == 0, pc := w16 (m.pc + 1), r7 := (m.r7 - m.r1 - 1) % 256 }
@[simp] def z99_1 (m : Mc) : Mc := { m with fc := decide (m.r7 - m.r1 - 0 < 0), fp := par ((m.r7 - m.r1 - 0) % 256), fs := decide (128 ≤ (m.r7 - m.r1 - 0) % 256), fx := decide (15 < m.r7 % 16 + 15 - m.r1 % 16 + 1), fz := (m.r7 - m.r1 - 0) % 256 == 0, pc := w16 (m.pc + 1), r7 := (m.r7 - m.r1 - 0) % 256 }
theorem p99_0 : endsAt [0, 1] (Ly.run ctx3 3000 [(22, true), (7, true)] (sP m g 153 b1 b2)) = some (T [m.fc == true, inb m.r7 && inb m.r1], .int .i64 0, 5, hPm (z99_0 m) (memL g)) := by kernel_rfl
theorem p99_1 : endsAt [0, 1] (Ly.run ctx3 3000 [(22, false), (7, true)] (sP m g 153 b1 b2)) = some ([(m.fc == true, false), (inb m.r7 && inb m.r1, true)], .int .i64 0, 5, hPm (z99_1 m) (memL g)) := by kernel_rfl
theorem r99_0 : endsAt [0, 1, 2] (Ly.run ctx3 3000 [(4, true), (19, true)] (sR m g 153)) = some (T [inw m.pc && true, inb m.r7 && inb m.r1], .int .i64 0, 4, hRm { m with fc := decide (m.r7 - m.r1 - cI m.fc < 0), fp := par ((m.r7 - m.r1 - cI m.fc) % 256), fs := decide (128 ≤ (m.r7 - m.r1 - cI m.fc) % 256), fx := decide (15 < m.r7 % 16 + 15 - m.r1 % 16 + cI !m.fc), fz := (m.r7 - m.r1 - cI m.fc) % 256 == 0, pc := w16 (m.pc + 1), r7 := (m.r7 - m.r1 - cI m.fc) % 256 } (memL g)) := by kernel_rfl
theorem o99 (hm : m.Ok) (hg : ∀ e, B8 (g e)) (hh : m.halt = false) (h0 : g (ix m.pc) = 153) : Both m g := by
  obtain ⟨r0, r1, r2, r3, r4, r5, r7, sp, pc⟩ := id hm
  cases hf : m.fc
  · exact joinA (m' := (z99_1 m)) hm hh h0 (p99_1 m g _ _) (r99_0 m g) hg
  · exact joinA (m' := (z99_0 m)) hm hh h0 (p99_0 m g _ _) (r99_0 m g) hg
@[simp] def z9a_0 (m : Mc) : Mc := { m with fc := decide (m.r7 - m.r2 - 1 < 0), fp := par ((m.r7 - m.r2 - 1) % 256), fs := decide (128 ≤ (m.r7 - m.r2 - 1) % 256), fx := decide (15 < m.r7 % 16 + 15 - m.r2 % 16 + 0), fz := (m.r7 - m.r2 - 1) % 256 == 0, pc := w16 (m.pc + 1), r7 := (m.r7 - m.r2 - 1) % 256 }
@[simp] def z9a_1 (m : Mc) : Mc := { m with fc := decide (m.r7 - m.r2 - 0 < 0), fp := par ((m.r7 - m.r2 - 0) % 256), fs := decide (128 ≤ (m.r7 - m.r2 - 0) % 256), fx := decide (15 < m.r7 % 16 + 15 - m.r2 % 16 + 1), fz := (m.r7 - m.r2 - 0) % 256 == 0, pc := w16 (m.pc + 1), r7 := (m.r7 - m.r2 - 0) % 256 }
theorem p9a_0 : endsAt [0, 1] (Ly.run ctx3 3000 [(22, true), (7, true)] (sP m g 154 b1 b2)) = some (T [m.fc == true, inb m.r7 && inb m.r2], .int .i64 0, 5, hPm (z9a_0 m) (memL g)) := by kernel_rfl
theorem p9a_1 : endsAt [0, 1] (Ly.run ctx3 3000 [(22, false), (7, true)] (sP m g 154 b1 b2)) = some ([(m.fc == true, false), (inb m.r7 && inb m.r2, true)], .int .i64 0, 5, hPm (z9a_1 m) (memL g)) := by kernel_rfl
theorem r9a_0 : endsAt [0, 1, 2] (Ly.run ctx3 3000 [(4, true), (19, true)] (sR m g 154)) = some (T [inw m.pc && true, inb m.r7 && inb m.r2], .int .i64 0, 4, hRm { m with fc := decide (m.r7 - m.r2 - cI m.fc < 0), fp := par ((m.r7 - m.r2 - cI m.fc) % 256), fs := decide (128 ≤ (m.r7 - m.r2 - cI m.fc) % 256), fx := decide (15 < m.r7 % 16 + 15 - m.r2 % 16 + cI !m.fc), fz := (m.r7 - m.r2 - cI m.fc) % 256 == 0, pc := w16 (m.pc + 1), r7 := (m.r7 - m.r2 - cI m.fc) % 256 } (memL g)) := by kernel_rfl
theorem o9a (hm : m.Ok) (hg : ∀ e, B8 (g e)) (hh : m.halt = false) (h0 : g (ix m.pc) = 154) : Both m g := by
  obtain ⟨r0, r1, r2, r3, r4, r5, r7, sp, pc⟩ := id hm
  cases hf : m.fc
  · exact joinA (m' := (z9a_1 m)) hm hh h0 (p9a_1 m g _ _) (r9a_0 m g) hg
  · exact joinA (m' := (z9a_0 m)) hm hh h0 (p9a_0 m g _ _) (r9a_0 m g) hg
@[simp] def z9b_0 (m : Mc) : Mc := { m with fc := decide (m.r7 - m.r3 - 1 < 0), fp := par ((m.r7 - m.r3 - 1) % 256), fs := decide (128 ≤ (m.r7 - m.r3 - 1) % 256), fx := decide (15 < m.r7 % 16 + 15 - m.r3 % 16 + 0), fz := (m.r7 - m.r3 - 1) % 256 == 0, pc := w16 (m.pc + 1), r7 := (m.r7 - m.r3 - 1) % 256 }
@[simp] def z9b_1 (m : Mc) : Mc := { m with fc := decide (m.r7 - m.r3 - 0 < 0), fp := par ((m.r7 - m.r3 - 0) % 256), fs := decide (128 ≤ (m.r7 - m.r3 - 0) % 256), fx := decide (15 < m.r7 % 16 + 15 - m.r3 % 16 + 1), fz := (m.r7 - m.r3 - 0) % 256 == 0, pc := w16 (m.pc + 1), r7 := (m.r7 - m.r3 - 0) % 256 }
theorem p9b_0 : endsAt [0, 1] (Ly.run ctx3 3000 [(22, true), (7, true)] (sP m g 155 b1 b2)) = some (T [m.fc == true, inb m.r7 && inb m.r3], .int .i64 0, 5, hPm (z9b_0 m) (memL g)) := by kernel_rfl
theorem p9b_1 : endsAt [0, 1] (Ly.run ctx3 3000 [(22, false), (7, true)] (sP m g 155 b1 b2)) = some ([(m.fc == true, false), (inb m.r7 && inb m.r3, true)], .int .i64 0, 5, hPm (z9b_1 m) (memL g)) := by kernel_rfl
theorem r9b_0 : endsAt [0, 1, 2] (Ly.run ctx3 3000 [(4, true), (19, true)] (sR m g 155)) = some (T [inw m.pc && true, inb m.r7 && inb m.r3], .int .i64 0, 4, hRm { m with fc := decide (m.r7 - m.r3 - cI m.fc < 0), fp := par ((m.r7 - m.r3 - cI m.fc) % 256), fs := decide (128 ≤ (m.r7 - m.r3 - cI m.fc) % 256), fx := decide (15 < m.r7 % 16 + 15 - m.r3 % 16 + cI !m.fc), fz := (m.r7 - m.r3 - cI m.fc) % 256 == 0, pc := w16 (m.pc + 1), r7 := (m.r7 - m.r3 - cI m.fc) % 256 } (memL g)) := by kernel_rfl
theorem o9b (hm : m.Ok) (hg : ∀ e, B8 (g e)) (hh : m.halt = false) (h0 : g (ix m.pc) = 155) : Both m g := by
  obtain ⟨r0, r1, r2, r3, r4, r5, r7, sp, pc⟩ := id hm
  cases hf : m.fc
  · exact joinA (m' := (z9b_1 m)) hm hh h0 (p9b_1 m g _ _) (r9b_0 m g) hg
  · exact joinA (m' := (z9b_0 m)) hm hh h0 (p9b_0 m g _ _) (r9b_0 m g) hg
@[simp] def z9c_0 (m : Mc) : Mc := { m with fc := decide (m.r7 - m.r4 - 1 < 0), fp := par ((m.r7 - m.r4 - 1) % 256), fs := decide (128 ≤ (m.r7 - m.r4 - 1) % 256), fx := decide (15 < m.r7 % 16 + 15 - m.r4 % 16 + 0), fz := (m.r7 - m.r4 - 1) % 256 == 0, pc := w16 (m.pc + 1), r7 := (m.r7 - m.r4 - 1) % 256 }
@[simp] def z9c_1 (m : Mc) : Mc := { m with fc := decide (m.r7 - m.r4 - 0 < 0), fp := par ((m.r7 - m.r4 - 0) % 256), fs := decide (128 ≤ (m.r7 - m.r4 - 0) % 256), fx := decide (15 < m.r7 % 16 + 15 - m.r4 % 16 + 1), fz := (m.r7 - m.r4 - 0) % 256 == 0, pc := w16 (m.pc + 1), r7 := (m.r7 - m.r4 - 0) % 256 }
theorem p9c_0 : endsAt [0, 1] (Ly.run ctx3 3000 [(22, true), (7, true)] (sP m g 156 b1 b2)) = some (T [m.fc == true, inb m.r7 && inb m.r4], .int .i64 0, 5, hPm (z9c_0 m) (memL g)) := by kernel_rfl
theorem p9c_1 : endsAt [0, 1] (Ly.run ctx3 3000 [(22, false), (7, true)] (sP m g 156 b1 b2)) = some ([(m.fc == true, false), (inb m.r7 && inb m.r4, true)], .int .i64 0, 5, hPm (z9c_1 m) (memL g)) := by kernel_rfl
theorem r9c_0 : endsAt [0, 1, 2] (Ly.run ctx3 3000 [(4, true), (19, true)] (sR m g 156)) = some (T [inw m.pc && true, inb m.r7 && inb m.r4], .int .i64 0, 4, hRm { m with fc := decide (m.r7 - m.r4 - cI m.fc < 0), fp := par ((m.r7 - m.r4 - cI m.fc) % 256), fs := decide (128 ≤ (m.r7 - m.r4 - cI m.fc) % 256), fx := decide (15 < m.r7 % 16 + 15 - m.r4 % 16 + cI !m.fc), fz := (m.r7 - m.r4 - cI m.fc) % 256 == 0, pc := w16 (m.pc + 1), r7 := (m.r7 - m.r4 - cI m.fc) % 256 } (memL g)) := by kernel_rfl
theorem o9c (hm : m.Ok) (hg : ∀ e, B8 (g e)) (hh : m.halt = false) (h0 : g (ix m.pc) = 156) : Both m g := by
  obtain ⟨r0, r1, r2, r3, r4, r5, r7, sp, pc⟩ := id hm
  cases hf : m.fc
  · exact joinA (m' := (z9c_1 m)) hm hh h0 (p9c_1 m g _ _) (r9c_0 m g) hg
  · exact joinA (m' := (z9c_0 m)) hm hh h0 (p9c_0 m g _ _) (r9c_0 m g) hg
@[simp] def z9d_0 (m : Mc) : Mc := { m with fc := decide (m.r7 - m.r5 - 1 < 0), fp := par ((m.r7 - m.r5 - 1) % 256), fs := decide (128 ≤ (m.r7 - m.r5 - 1) % 256), fx := decide (15 < m.r7 % 16 + 15 - m.r5 % 16 + 0), fz := (m.r7 - m.r5 - 1) % 256 == 0, pc := w16 (m.pc + 1), r7 := (m.r7 - m.r5 - 1) % 256 }
@[simp] def z9d_1 (m : Mc) : Mc := { m with fc := decide (m.r7 - m.r5 - 0 < 0), fp := par ((m.r7 - m.r5 - 0) % 256), fs := decide (128 ≤ (m.r7 - m.r5 - 0) % 256), fx := decide (15 < m.r7 % 16 + 15 - m.r5 % 16 + 1), fz := (m.r7 - m.r5 - 0) % 256 == 0, pc := w16 (m.pc + 1), r7 := (m.r7 - m.r5 - 0) % 256 }
theorem p9d_0 : endsAt [0, 1] (Ly.run ctx3 3000 [(22, true), (7, true)] (sP m g 157 b1 b2)) = some (T [m.fc == true, inb m.r7 && inb m.r5], .int .i64 0, 5, hPm (z9d_0 m) (memL g)) := by kernel_rfl
theorem p9d_1 : endsAt [0, 1] (Ly.run ctx3 3000 [(22, false), (7, true)] (sP m g 157 b1 b2)) = some ([(m.fc == true, false), (inb m.r7 && inb m.r5, true)], .int .i64 0, 5, hPm (z9d_1 m) (memL g)) := by kernel_rfl
theorem r9d_0 : endsAt [0, 1, 2] (Ly.run ctx3 3000 [(4, true), (19, true)] (sR m g 157)) = some (T [inw m.pc && true, inb m.r7 && inb m.r5], .int .i64 0, 4, hRm { m with fc := decide (m.r7 - m.r5 - cI m.fc < 0), fp := par ((m.r7 - m.r5 - cI m.fc) % 256), fs := decide (128 ≤ (m.r7 - m.r5 - cI m.fc) % 256), fx := decide (15 < m.r7 % 16 + 15 - m.r5 % 16 + cI !m.fc), fz := (m.r7 - m.r5 - cI m.fc) % 256 == 0, pc := w16 (m.pc + 1), r7 := (m.r7 - m.r5 - cI m.fc) % 256 } (memL g)) := by kernel_rfl
theorem o9d (hm : m.Ok) (hg : ∀ e, B8 (g e)) (hh : m.halt = false) (h0 : g (ix m.pc) = 157) : Both m g := by
  obtain ⟨r0, r1, r2, r3, r4, r5, r7, sp, pc⟩ := id hm
  cases hf : m.fc
  · exact joinA (m' := (z9d_1 m)) hm hh h0 (p9d_1 m g _ _) (r9d_0 m g) hg
  · exact joinA (m' := (z9d_0 m)) hm hh h0 (p9d_0 m g _ _) (r9d_0 m g) hg
@[simp] def z9e_0 (m : Mc) (g : Nat → Int) : Mc := { m with fc := decide (m.r7 - g (ix (or16 (w16 (w16 m.r4 * 256)) (w16 m.r5))) - 1 < 0), fp := par ((m.r7 - g (ix (or16 (w16 (w16 m.r4 * 256)) (w16 m.r5))) - 1) % 256), fs := decide (128 ≤ (m.r7 - g (ix (or16 (w16 (w16 m.r4 * 256)) (w16 m.r5))) - 1) % 256), fx := decide (15 < m.r7 % 16 + 15 - g (ix (or16 (w16 (w16 m.r4 * 256)) (w16 m.r5))) % 16 + 0), fz := (m.r7 - g (ix (or16 (w16 (w16 m.r4 * 256)) (w16 m.r5))) - 1) % 256 == 0, pc := w16 (m.pc + 1), r7 := (m.r7 - g (ix (or16 (w16 (w16 m.r4 * 256)) (w16 m.r5))) - 1) % 256 }
@[simp] def z9e_1 (m : Mc) (g : Nat → Int) : Mc := { m with fc := decide (m.r7 - g (ix (or16 (w16 (w16 m.r4 * 256)) (w16 m.r5))) - 0 < 0), fp := par ((m.r7 - g (ix (or16 (w16 (w16 m.r4 * 256)) (w16 m.r5))) - 0) % 256), fs := decide (128 ≤ (m.r7 - g (ix (or16 (w16 (w16 m.r4 * 256)) (w16 m.r5))) - 0) % 256), fx := decide (15 < m.r7 % 16 + 15 - g (ix (or16 (w16 (w16 m.r4 * 256)) (w16 m.r5))) % 16 + 1), fz := (m.r7 - g (ix (or16 (w16 (w16 m.r4 * 256)) (w16 m.r5))) - 0) % 256 == 0, pc := w16 (m.pc + 1), r7 := (m.r7 - g (ix (or16 (w16 (w16 m.r4 * 256)) (w16 m.r5))) - 0) % 256 }
theorem p9e_0 : endsAt [0, 1] (Ly.run ctx3 3000 [(28, true), (0, true), (13, true), (0, true), (1, true), (7, true)] (sP m g 158 b1 b2)) = some (T [(true && lt16 (or16 (w16 (w16 m.r4 * 256)) (w16 m.r5))), bl (ix (or16 (w16 (w16 m.r4 * 256)) (w16 m.r5))), (true && lt16 (or16 (w16 (w16 m.r4 * 256)) (w16 m.r5))), bl (ix (or16 (w16 (w16 m.r4 * 256)) (w16 m.r5))), m.fc == true, inb m.r7 && inb (g (ix (or16 (w16 (w16 m.r4 * 256)) (w16 m.r5))))], .int .i64 0, 5, hPm (z9e_0 m g) (memL g)) := by kernel_rfl
theorem p9e_1 : endsAt [0, 1] (Ly.run ctx3 3000 [(28, true), (0, true), (13, true), (0, true), (1, false), (7, true)] (sP m g 158 b1 b2)) = some ([((true && lt16 (or16 (w16 (w16 m.r4 * 256)) (w16 m.r5))), true), (bl (ix (or16 (w16 (w16 m.r4 * 256)) (w16 m.r5))), true), ((true && lt16 (or16 (w16 (w16 m.r4 * 256)) (w16 m.r5))), true), (bl (ix (or16 (w16 (w16 m.r4 * 256)) (w16 m.r5))), true), (m.fc == true, false), (inb m.r7 && inb (g (ix (or16 (w16 (w16 m.r4 * 256)) (w16 m.r5)))), true)], .int .i64 0, 5, hPm (z9e_1 m g) (memL g)) := by kernel_rfl
theorem r9e_0 : endsAt [0, 1, 2] (Ly.run ctx3 3000 [(4, true), (12, true), (0, true), (0, true), (12, true)] (sR m g 158)) = some (T [inw m.pc && true, inb m.r4 && inb m.r5, rg (256 * m.r4 + m.r5), bl (ix (256 * m.r4 + m.r5)), inb m.r7 && inb (g (ix (256 * m.r4 + m.r5)))], .int .i64 0, 4, hRm { m with fc := decide (m.r7 - g (ix (256 * m.r4 + m.r5)) - cI m.fc < 0), fp := par ((m.r7 - g (ix (256 * m.r4 + m.r5)) - cI m.fc) % 256), fs := decide (128 ≤ (m.r7 - g (ix (256 * m.r4 + m.r5)) - cI m.fc) % 256), fx := decide (15 < m.r7 % 16 + 15 - g (ix (256 * m.r4 + m.r5)) % 16 + cI !m.fc), fz := (m.r7 - g (ix (256 * m.r4 + m.r5)) - cI m.fc) % 256 == 0, pc := w16 (m.pc + 1), r7 := (m.r7 - g (ix (256 * m.r4 + m.r5)) - cI m.fc) % 256 } (memL g)) := by kernel_rfl
theorem o9e (hm : m.Ok) (hg : ∀ e, B8 (g e)) (hh : m.halt = false) (h0 : g (ix m.pc) = 158) : Both m g := by
  obtain ⟨r0, r1, r2, r3, r4, r5, r7, sp, pc⟩ := id hm
  cases hf : m.fc
  · exact joinA (m' := (z9e_1 m g)) hm hh h0 (p9e_1 m g _ _) (r9e_0 m g) hg
  · exact joinA (m' := (z9e_0 m g)) hm hh h0 (p9e_0 m g _ _) (r9e_0 m g) hg
@[simp] def z9f_0 (m : Mc) : Mc := { m with fc := decide (m.r7 - m.r7 - 1 < 0), fp := par ((m.r7 - m.r7 - 1) % 256), fs := decide (128 ≤ (m.r7 - m.r7 - 1) % 256), fx := decide (15 < m.r7 % 16 + 15 - m.r7 % 16 + 0), fz := (m.r7 - m.r7 - 1) % 256 == 0, pc := w16 (m.pc + 1), r7 := (m.r7 - m.r7 - 1) % 256 }
@[simp] def z9f_1 (m : Mc) : Mc := { m with fc := decide (m.r7 - m.r7 - 0 < 0), fp := par ((m.r7 - m.r7 - 0) % 256), fs := decide (128 ≤ (m.r7 - m.r7 - 0) % 256), fx := decide (15 < m.r7 % 16 + 15 - m.r7 % 16 + 1), fz := (m.r7 - m.r7 - 0) % 256 == 0, pc := w16 (m.pc + 1), r7 := (m.r7 - m.r7 - 0) % 256 }
theorem p9f_0 : endsAt [0, 1] (Ly.run ctx3 3000 [(22, true), (7, true)] (sP m g 159 b1 b2)) = some (T [m.fc == true, inb m.r7 && inb m.r7], .int .i64 0, 5, hPm (z9f_0 m) (memL g)) := by kernel_rfl
theorem p9f_1 : endsAt [0, 1] (Ly.run ctx3 3000 [(22, false), (7, true)] (sP m g 159 b1 b2)) = some ([(m.fc == true, false), (inb m.r7 && inb m.r7, true)], .int .i64 0, 5, hPm (z9f_1 m) (memL g)) := by kernel_rfl
theorem r9f_0 : endsAt [0, 1, 2] (Ly.run ctx3 3000 [(4, true), (19, true)] (sR m g 159)) = some (T [inw m.pc && true, inb m.r7 && inb m.r7], .int .i64 0, 4, hRm { m with fc := decide (m.r7 - m.r7 - cI m.fc < 0), fp := par ((m.r7 - m.r7 - cI m.fc) % 256), fs := decide (128 ≤ (m.r7 - m.r7 - cI m.fc) % 256), fx := decide (15 < m.r7 % 16 + 15 - m.r7 % 16 + cI !m.fc), fz := (m.r7 - m.r7 - cI m.fc) % 256 == 0, pc := w16 (m.pc + 1), r7 := (m.r7 - m.r7 - cI m.fc) % 256 } (memL g)) := by kernel_rfl
theorem o9f (hm : m.Ok) (hg : ∀ e, B8 (g e)) (hh : m.halt = false) (h0 : g (ix m.pc) = 159) : Both m g := by
  obtain ⟨r0, r1, r2, r3, r4, r5, r7, sp, pc⟩ := id hm
  cases hf : m.fc
  · exact joinA (m' := (z9f_1 m)) hm hh h0 (p9f_1 m g _ _) (r9f_0 m g) hg
  · exact joinA (m' := (z9f_0 m)) hm hh h0 (p9f_0 m g _ _) (r9f_0 m g) hg
theorem blk9 (m : Mc) (g : Nat → Int) (hm : m.Ok) (hg : ∀ e, B8 (g e)) (hh : m.halt = false) (h1 : 144 ≤ g (ix m.pc)) (h2 : g (ix m.pc) < 160) : Both m g := by
  have h : g (ix m.pc) = 144 ∨ g (ix m.pc) = 145 ∨ g (ix m.pc) = 146 ∨ g (ix m.pc) = 147 ∨ g (ix m.pc) = 148 ∨ g (ix m.pc) = 149 ∨ g (ix m.pc) = 150 ∨ g (ix m.pc) = 151 ∨ g (ix m.pc) = 152 ∨ g (ix m.pc) = 153 ∨ g (ix m.pc) = 154 ∨ g (ix m.pc) = 155 ∨ g (ix m.pc) = 156 ∨ g (ix m.pc) = 157 ∨ g (ix m.pc) = 158 ∨ g (ix m.pc) = 159 := by omega
  rcases h with h | h | h | h | h | h | h | h | h | h | h | h | h | h | h | h
  · exact o90 m g hm hg hh h
  · exact o91 m g hm hg hh h
  · exact o92 m g hm hg hh h
  · exact o93 m g hm hg hh h
  · exact o94 m g hm hg hh h
  · exact o95 m g hm hg hh h
  · exact o96 m g hm hg hh h
  · exact o97 m g hm hg hh h
  · exact o98 m g hm hg hh h
  · exact o99 m g hm hg hh h
  · exact o9a m g hm hg hh h
  · exact o9b m g hm hg hh h
  · exact o9c m g hm hg hh h
  · exact o9d m g hm hg hh h
  · exact o9e m g hm hg hh h
  · exact o9f m g hm hg hh h
end Go.Proofs.Ytpggoincnebfnaa
namespace Go.Proofs.Ytpggoincnebfnaa
open Go Go.Ly Go.RowKit
variable (m : Mc) (g : Nat → Int) (b1 b2 : Int)
@[simp] def za0_0 (m : Mc) : Mc := { m with fc := false, fp := par (and8 m.r7 m.r0), fs := decide (128 ≤ and8 m.r7 m.r0), fx := and8 (or8 m.r7 m.r0) 8 != 0, fz := and8 m.r7 m.r0 == 0, pc := w16 (m.pc + 1), r7 := and8 m.r7 m.r0 }
theorem pa0_0 : endsAt [0, 1] (Ly.run ctx3 3000 [(22, true), (8, true)] (sP m g 160 b1 b2)) = some (T [m.fc == true, inb m.r7 && inb m.r0], .int .i64 0, 5, hPm (za0_0 m) (memL g)) := by kernel_rfl
theorem pa0_1 : endsAt [0, 1] (Ly.run ctx3 3000 [(22, false), (8, true)] (sP m g 160 b1 b2)) = some ([(m.fc == true, false), (inb m.r7 && inb m.r0, true)], .int .i64 0, 5, hPm (za0_0 m) (memL g)) := by kernel_rfl
theorem ra0_0 : endsAt [0, 1, 2] (Ly.run ctx3 3000 [(4, true), (14, true)] (sR m g 160)) = some (T [inw m.pc && true, inb m.r7 && inb m.r0], .int .i64 0, 4, hRm (za0_0 m) (memL g)) := by kernel_rfl
theorem oa0 (hm : m.Ok) (hg : ∀ e, B8 (g e)) (hh : m.halt = false) (h0 : g (ix m.pc) = 160) : Both m g := by
  obtain ⟨r0, r1, r2, r3, r4, r5, r7, sp, pc⟩ := id hm
  cases hf : m.fc
  · exact joinA (m' := (za0_0 m)) hm hh h0 (pa0_1 m g _ _) (ra0_0 m g) hg
  · exact joinA (m' := (za0_0 m)) hm hh h0 (pa0_0 m g _ _) (ra0_0 m g) hg
@[simp] def za1_0 (m : Mc) : Mc := { m with fc := false, fp := par (and8 m.r7 m.r1), fs := decide (128 ≤ and8 m.r7 m.r1), fx := and8 (or8 m.r7 m.r1) 8 != 0, fz := and8 m.r7 m.r1 == 0, pc := w16 (m.pc + 1), r7 := and8 m.r7 m.r1 }
theorem pa1_0 : endsAt [0, 1] (Ly.run ctx3 3000 [(22, true), (8, true)] (sP m g 161 b1 b2)) = some (T [m.fc == true, inb m.r7 && inb m.r1], .int .i64 0, 5, hPm (za1_0 m) (memL g)) := by kernel_rfl
theorem pa1_1 : endsAt [0, 1] (Ly.run ctx3 3000 [(22, false), (8, true)] (sP m g 161 b1 b2)) = some ([(m.fc == true, false), (inb m.r7 && inb m.r1, true)], .int .i64 0, 5, hPm (za1_0 m) (memL g)) := by kernel_rfl
theorem ra1_0 : endsAt [0, 1, 2] (Ly.run ctx3 3000 [(4, true), (14, true)] (sR m g 161)) = some (T [inw m.pc && true, inb m.r7 && inb m.r1], .int .i64 0, 4, hRm (za1_0 m) (memL g)) := by kernel_rfl
theorem oa1 (hm : m.Ok) (hg : ∀ e, B8 (g e)) (hh : m.halt = false) (h0 : g (ix m.pc) = 161) : Both m g := by
  obtain ⟨r0, r1, r2, r3, r4, r5, r7, sp, pc⟩ := id hm
  cases hf : m.fc
  · exact joinA (m' := (za1_0 m)) hm hh h0 (pa1_1 m g _ _) (ra1_0 m g) hg
  · exact joinA (m' := (za1_0 m)) hm hh h0 (pa1_0 m g _ _) (ra1_0 m g) hg
@[simp] def za2_0 (m : Mc) : Mc := { m with fc := false, fp := par (and8 m.r7 m.r2), fs := decide (128 ≤ and8 m.r7 m.r2), fx := and8 (or8 m.r7 m.r2) 8 != 0, fz := and8 m.r7 m.r2 == 0, pc := w16 (m.pc + 1), r7 := and8 m.r7 m.r2 }
theorem pa2_0 : endsAt [0, 1] (Ly.run ctx3 3000 [(22, true), (8, true)] (sP m g 162 b1 b2)) = some (T [m.fc == true, inb m.r7 && inb m.r2], .int .i64 0, 5, hPm (za2_0 m) (memL g)) := by kernel_rfl
theorem pa2_1 : endsAt [0, 1] (Ly.run ctx3 3000 [(22, false), (8, true)] (sP m g 162 b1 b2)) = some ([(m.fc == true, false), (inb m.r7 && inb m.r2, true)], .int .i64 0, 5, hPm (za2_0 m) (memL g)) := by kernel_rfl
theorem ra2_0 : endsAt [0, 1, 2] (Ly.run ctx3 3000 [(4, true), (14, true)] (sR m g 162)) = some (T [inw m.pc && true, inb m.r7 && inb m.r2], .int .i64 0, 4, hRm (za2_0 m) (memL g)) := by kernel_rfl
theorem oa2 (hm : m.Ok) (hg : ∀ e, B8 (g e)) (hh : m.halt = false) (h0 : g (ix m.pc) = 162) : Both m g := by
  obtain ⟨r0, r1, r2, r3, r4, r5, r7, sp, pc⟩ := id hm
  cases hf : m.fc
  · exact joinA (m' := (za2_0 m)) hm hh h0 (pa2_1 m g _ _) (ra2_0 m g) hg
  · exact joinA (m' := (za2_0 m)) hm hh h0 (pa2_0 m g _ _) (ra2_0 m g) hg
@[simp] def za3_0 (m : Mc) : Mc := { m with fc := false, fp := par (and8 m.r7 m.r3), fs := decide (128 ≤ and8 m.r7 m.r3), fx := and8 (or8 m.r7 m.r3) 8 != 0, fz := and8 m.r7 m.r3 == 0, pc := w16 (m.pc + 1), r7 := and8 m.r7 m.r3 }
theorem pa3_0 : endsAt [0, 1] (Ly.run ctx3 3000 [(22, true), (8, true)] (sP m g 163 b1 b2)) = some (T [m.fc == true, inb m.r7 && inb m.r3], .int .i64 0, 5, hPm (za3_0 m) (memL g)) := by kernel_rfl
theorem pa3_1 : endsAt [0, 1] (Ly.run ctx3 3000 [(22, false), (8, true)] (sP m g 163 b1 b2)) = some ([(m.fc == true, false), (inb m.r7 && inb m.r3, true)], .int .i64 0, 5, hPm (za3_0 m) (memL g)) := by kernel_rfl
theorem ra3_0 : endsAt [0, 1, 2] (Ly.run ctx3 3000 [(4, true), (14, true)] (sR m g 163)) = some (T [inw m.pc && true, inb m.r7 && inb m.r3], .int .i64 0, 4, hRm (za3_0 m) (memL g)) := by kernel_rfl
theorem oa3 (hm : m.Ok) (hg : ∀ e, B8 (g e)) (hh : m.halt = false) (h0 : g (ix m.pc) = 163) : Both m g := by
  obtain ⟨r0, r1, r2, r3, r4, r5, r7, sp, pc⟩ := id hm
  cases hf : m.fc
  · exact joinA (m' := (za3_0 m)) hm hh h0 (pa3_1 m g _ _) (ra3_0 m g) hg
  · exact joinA (m' := (za3_0 m)) hm hh h0 (pa3_0 m g _ _) (ra3_0 m g) hg
@[simp] def za4_0 (m : Mc) : Mc := { m with fc := false, fp := par (and8 m.r7 m.r4), fs := decide (128 ≤ and8 m.r7 m.r4), fx := and8 (or8 m.r7 m.r4) 8 != 0, fz := and8 m.r7 m.r4 == 0, pc := w16 (m.pc + 1), r7 := and8 m.r7 m.r4 }
theorem pa4_0 : endsAt [0, 1] (Ly.run ctx3 3000 [(22, true), (8, true)] (sP m g 164 b1 b2)) = some (T [m.fc == true, inb m.r7 && inb m.r4], .int .i64 0, 5, hPm (za4_0 m) (memL g)) := by kernel_rfl
theorem pa4_1 : endsAt [0, 1] (Ly.run ctx3 3000 [(22, false), (8, true)] (sP m g 164 b1 b2)) = some ([(m.fc == true, false), (inb m.r7 && inb m.r4, true)], .int .i64 0, 5, hPm (za4_0 m) (memL g)) := by kernel_rfl
theorem ra4_0 : endsAt [0, 1, 2] (Ly.run ctx3 3000 [(4, true), (14, true)] (sR m g 164)) = some (T [inw m.pc && true, inb m.r7 && inb m.r4], .int .i64 0, 4, hRm (za4_0 m) (memL g)) := by kernel_rfl
theorem oa4 (hm : m.Ok) (hg : ∀ e, B8 (g e)) (hh : m.halt = false) (h0 : g (ix m.pc) = 164) : Both m g := by
  obtain ⟨r0, r1, r2, r3, r4, r5, r7, sp, pc⟩ := id hm
  cases hf : m.fc
  · exact joinA (m' := (za4_0 m)) hm hh h0 (pa4_1 m g _ _) (ra4_0 m g) hg
  · exact joinA (m' := (za4_0 m)) hm hh h0 (pa4_0 m g _ _) (ra4_0 m g) hg
@[simp] def za5_0 (m : Mc) : Mc := { m with fc := false, fp := par (and8 m.r7 m.r5), fs := decide (128 ≤ and8 m.r7 m.r5), fx := and8 (or8 m.r7 m.r5) 8 != 0, fz := and8 m.r7 m.r5 == 0, pc := w16 (m.pc + 1), r7 := and8 m.r7 m.r5 }
theorem pa5_0 : endsAt [0, 1] (Ly.run ctx3 3000 [(22, true), (8, true)] (sP m g 165 b1 b2)) = some (T [m.fc == true, inb m.r7 && inb m.r5], .int .i64 0, 5, hPm (za5_0 m) (memL g)) := by kernel_rfl
theorem pa5_1 : endsAt [0, 1] (Ly.run ctx3 3000 [(22, false), (8, true)] (sP m g 165 b1 b2)) = some ([(m.fc == true, false), (inb m.r7 && inb m.r5, true)], .int .i64 0, 5, hPm (za5_0 m) (memL g)) := by kernel_rfl
theorem ra5_0 : endsAt [0, 1, 2] (Ly.run ctx3 3000 [(4, true), (14, true)] (sR m g 165)) = some (T [inw m.pc && true, inb m.r7 && inb m.r5], .int .i64 0, 4, hRm (za5_0 m) (memL g)) := by kernel_rfl
theorem oa5 (hm : m.Ok) (hg : ∀ e, B8 (g e)) (hh : m.halt = false) (h0 : g (ix m.pc) = 165) : Both m g := by
  obtain ⟨r0, r1, r2, r3, r4, r5, r7, sp, pc⟩ := id hm
  cases hf : m.fc
  · exact joinA (m' := (za5_0 m)) hm hh h0 (pa5_1 m g _ _) (ra5_0 m g) hg
  · exact joinA (m' := (za5_0 m)) hm hh h0 (pa5_0 m g _ _) (ra5_0 m g) hg
@[simp] def za6_0 (m : Mc) (g : Nat → Int) : Mc := { m with fc := false, fp := par (and8 m.r7 (g (ix (or16 (w16 (w16 m.r4 * 256)) (w16 m.r5))))), fs := decide (128 ≤ and8 m.r7 (g (ix (or16 (w16 (w16 m.r4 * 256)) (w16 m.r5))))), fx := and8 (or8 m.r7 (g (ix (or16 (w16 (w16 m.r4 * 256)) (w16 m.r5))))) 8 != 0, fz := and8 m.r7 (g (ix (or16 (w16 (w16 m.r4 * 256)) (w16 m.r5)))) == 0, pc := w16 (m.pc + 1), r7 := and8 m.r7 (g (ix (or16 (w16 (w16 m.r4 * 256)) (w16 m.r5)))) }
theorem pa6_0 : endsAt [0, 1] (Ly.run ctx3 3000 [(28, true), (0, true), (13, true), (0, true), (1, true), (8, true)] (sP m g 166 b1 b2)) = some (T [(true && lt16 (or16 (w16 (w16 m.r4 * 256)) (w16 m.r5))), bl (ix (or16 (w16 (w16 m.r4 * 256)) (w16 m.r5))), (true && lt16 (or16 (w16 (w16 m.r4 * 256)) (w16 m.r5))), bl (ix (or16 (w16 (w16 m.r4 * 256)) (w16 m.r5))), m.fc == true, inb m.r7 && inb (g (ix (or16 (w16 (w16 m.r4 * 256)) (w16 m.r5))))], .int .i64 0, 5, hPm (za6_0 m g) (memL g)) := by kernel_rfl
theorem pa6_1 : endsAt [0, 1] (Ly.run ctx3 3000 [(28, true), (0, true), (13, true), (0, true), (1, false), (8, true)] (sP m g 166 b1 b2)) = some ([((true && lt16 (or16 (w16 (w16 m.r4 * 256)) (w16 m.r5))), true), (bl (ix (or16 (w16 (w16 m.r4 * 256)) (w16 m.r5))), true), ((true && lt16 (or16 (w16 (w16 m.r4 * 256)) (w16 m.r5))), true), (bl (ix (or16 (w16 (w16 m.r4 * 256)) (w16 m.r5))), true), (m.fc == true, false), (inb m.r7 && inb (g (ix (or16 (w16 (w16 m.r4 * 256)) (w16 m.r5)))), true)], .int .i64 0, 5, hPm (za6_0 m g) (memL g)) := by kernel_rfl
theorem ra6_0 : endsAt [0, 1, 2] (Ly.run ctx3 3000 [(4, true), (12, true), (0, true), (0, true), (7, true)] (sR m g 166)) = some (T [inw m.pc && true, inb m.r4 && inb m.r5, rg (256 * m.r4 + m.r5), bl (ix (256 * m.r4 + m.r5)), inb m.r7 && inb (g (ix (256 * m.r4 + m.r5)))], .int .i64 0, 4, hRm { m with fc := false, fp := par (and8 m.r7 (g (ix (256 * m.r4 + m.r5)))), fs := decide (128 ≤ and8 m.r7 (g (ix (256 * m.r4 + m.r5)))), fx := and8 (or8 m.r7 (g (ix (256 * m.r4 + m.r5)))) 8 != 0, fz := and8 m.r7 (g (ix (256 * m.r4 + m.r5))) == 0, pc := w16 (m.pc + 1), r7 := and8 m.r7 (g (ix (256 * m.r4 + m.r5))) } (memL g)) := by kernel_rfl
theorem oa6 (hm : m.Ok) (hg : ∀ e, B8 (g e)) (hh : m.halt = false) (h0 : g (ix m.pc) = 166) : Both m g := by
  obtain ⟨r0, r1, r2, r3, r4, r5, r7, sp, pc⟩ := id hm
  cases hf : m.fc
  · exact joinA (m' := (za6_0 m g)) hm hh h0 (pa6_1 m g _ _) (ra6_0 m g) hg
  · exact joinA (m' := (za6_0 m g)) hm hh h0 (pa6_0 m g _ _) (ra6_0 m g) hg
@[simp] def za7_0 (m : Mc) : Mc := { m with fc := false, fp := par (and8 m.r7 m.r7), fs := decide (128 ≤ and8 m.r7 m.r7), fx := and8 (or8 m.r7 m.r7) 8 != 0, fz := and8 m.r7 m.r7 == 0, pc := w16 (m.pc + 1), r7 := and8 m.r7 m.r7 }
theorem pa7_0 : endsAt [0, 1] (Ly.run ctx3 3000 [(22, true), (8, true)] (sP m g 167 b1 b2)) = some (T [m.fc == true, inb m.r7 && inb m.r7], .int .i64 0, 5, hPm (za7_0 m) (memL g)) := by kernel_rfl
theorem pa7_1 : endsAt [0, 1] (Ly.run ctx3 3000 [(22, false), (8, true)] (sP m g 167 b1 b2)) = some ([(m.fc == true, false), (inb m.r7 && inb m.r7, true)], .int .i64 0, 5, hPm (za7_0 m) (memL g)) := by kernel_rfl
theorem ra7_0 : endsAt [0, 1, 2] (Ly.run ctx3 3000 [(4, true), (14, true)] (sR m g 167)) = some (T [inw m.pc && true, inb m.r7 && inb m.r7], .int .i64 0, 4, hRm (za7_0 m) (memL g)) := by kernel_rfl
theorem oa7 (hm : m.Ok) (hg : ∀ e, B8 (g e)) (hh : m.halt = false) (h0 : g (ix m.pc) = 167) : Both m g := by
  obtain ⟨r0, r1, r2, r3, r4, r5, r7, sp, pc⟩ := id hm
  cases hf : m.fc
  · exact joinA (m' := (za7_0 m)) hm hh h0 (pa7_1 m g _ _) (ra7_0 m g) hg
  · exact joinA (m' := (za7_0 m)) hm hh h0 (pa7_0 m g _ _) (ra7_0 m g) hg
@[simp] def za8_0 (m : Mc) : Mc := { m with fc := false, fp := par (xor8 m.r7 m.r0), fs := decide (128 ≤ xor8 m.r7 m.r0), fx := false, fz := xor8 m.r7 m.r0 == 0, pc := w16 (m.pc + 1), r7 := xor8 m.r7 m.r0 }
theorem pa8_0 : endsAt [0, 1] (Ly.run ctx3 3000 [(22, true), (9, true)] (sP m g 168 b1 b2)) = some (T [m.fc == true, inb m.r7 && inb m.r0], .int .i64 0, 5, hPm (za8_0 m) (memL g)) := by kernel_rfl
theorem pa8_1 : endsAt [0, 1] (Ly.run ctx3 3000 [(22, false), (9, true)] (sP m g 168 b1 b2)) = some ([(m.fc == true, false), (inb m.r7 && inb m.r0, true)], .int .i64 0, 5, hPm (za8_0 m) (memL g)) := by kernel_rfl
theorem ra8_0 : endsAt [0, 1, 2] (Ly.run ctx3 3000 [(4, true), (15, true)] (sR m g 168)) = some (T [inw m.pc && true, inb m.r7 && inb m.r0], .int .i64 0, 4, hRm (za8_0 m) (memL g)) := by kernel_rfl
theorem oa8 (hm : m.Ok) (hg : ∀ e, B8 (g e)) (hh : m.halt = false) (h0 : g (ix m.pc) = 168) : Both m g := by
  obtain ⟨r0, r1, r2, r3, r4, r5, r7, sp, pc⟩ := id hm
  cases hf : m.fc
  · exact joinA (m' := (za8_0 m)) hm hh h0 (pa8_1 m g _ _) (ra8_0 m g) hg
  · exact joinA (m' := (za8_0 m)) hm hh h0 (pa8_0 m g _ _) (ra8_0 m g) hg
@[simp] def za9_0 (m : Mc) : Mc := { m with fc := false, fp := par (xor8 m.r7 m.r1), fs := decide (128 ≤ xor8 m.r7 m.r1), fx := false, fz := xor8 m.r7 m.r1 == 0, pc := w16 (m.pc + 1), r7 := xor8 m.r7 m.r1 }
theorem pa9_0 : endsAt [0, 1] (Ly.run ctx3 3000 [(22, true), (9, true)] (sP m g 169 b1 b2)) = some (T [m.fc == true, inb m.r7 && inb m.r1], .int .i64 0, 5, hPm (za9_0 m) (memL g)) := by kernel_rfl
theorem pa9_1 : endsAt [0, 1] (Ly.run ctx3 3000 [(22, false), (9, true)] (sP m g 169 b1 b2)) = some ([(m.fc == true, false), (inb m.r7 && inb m.r1, true)], .int .i64 0, 5, hPm (za9_0 m) (memL g)) := by kernel_rfl
theorem ra9_0 : endsAt [0, 1, 2] (Ly.run ctx3 3000 [(4, true), (15, true)] (sR m g 169)) = some (T [inw m.pc && true, inb m.r7 && inb m.r1], .int .i64 0, 4, hRm (za9_0 m) (memL g)) := by kernel_rfl
theorem oa9 (hm : m.Ok) (hg : ∀ e, B8 (g e)) (hh : m.halt = false) (h0 : g (ix m.pc) = 169) : Both m g := by
  obtain ⟨r0, r1, r2, r3, r4, r5, r7, sp, pc⟩ := id hm
  cases hf : m.fc
  · exact joinA (m' := (za9_0 m)) hm hh h0 (pa9_1 m g _ _) (ra9_0 m g) hg
  · exact joinA (m' := (za9_0 m)) hm hh h0 (pa9_0 m g _ _) (ra9_0 m g) hg
@[simp] def zaa_0 (m : Mc) : Mc := { m with fc := false, fp := par (xor8 m.r7 m.r2), fs := decide (128 ≤ xor8 m.r7 m.r2), fx := false, fz := xor8 m.r7 m.r2 == 0, pc := w16 (m.pc + 1), r7 := xor8 m.r7 m.r2 }
theorem paa_0 : endsAt [0, 1] (Ly.run ctx3 3000 [(22, true), (9, true)] (sP m g 170 b1 b2)) = some (T [m.fc == true, inb m.r7 && inb m.r2], .int .i64 0, 5, hPm (zaa_0 m) (memL g)) := by kernel_rfl
theorem paa_1 : endsAt [0, 1] (Ly.run ctx3 3000 [(22, false), (9, true)] (sP m g 170 b1 b2)) = some ([(m.fc == true, false), (inb m.r7 && inb m.r2, true)], .int .i64 0, 5, hPm (zaa_0 m) (memL g)) := by kernel_rfl
theorem raa_0 : endsAt [0, 1, 2] (Ly.run ctx3 3000 [(4, true), (15, true)] (sR m g 170)) = some (T [inw m.pc && true, inb m.r7 && inb m.r2], .int .i64 0, 4, hRm (zaa_0 m) (memL g)) := by kernel_rfl
theorem oaa (hm : m.Ok) (hg : ∀ e, B8 (g e)) (hh : m.halt = false) (h0 : g (ix m.pc) = 170) : Both m g := by
  obtain ⟨r0, r1, r2, r3, r4, r5, r7, sp, pc⟩ := id hm
  cases hf : m.fc
  · exact joinA (m' := (zaa_0 m)) hm hh h0 (paa_1 m g _ _) (raa_0 m g) hg
  · exact joinA (m' := (zaa_0 m)) hm hh h0 (paa_0 m g _ _) (raa_0 m g) hg
@[simp] def zab_0 (m : Mc) : Mc := { m with fc := false, fp := par (xor8 m.r7 m.r3), fs := decide (128 ≤ xor8 m.r7 m.r3), fx := false, fz := xor8 m.r7 m.r3 == 0, pc := w16 (m.pc + 1), r7 := xor8 m.r7 m.r3 }
theorem pab_0 : endsAt [0, 1] (Ly.run ctx3 3000 [(22, true), (9, true)] (sP m g 171 b1 b2)) = some (T [m.fc == true, inb m.r7 && inb m.r3], .int .i64 0, 5, hPm (zab_0 m) (memL g)) := by kernel_rfl
theorem pab_1 : endsAt [0, 1] (Ly.run ctx3 3000 [(22, false), (9, true)] (sP m g 171 b1 b2)) = some ([(m.fc == true, false), (inb m.r7 && inb m.r3, true)], .int .i64 0, 5, hPm (zab_0 m) (memL g)) := by kernel_rfl
theorem rab_0 : endsAt [0, 1, 2] (Ly.run ctx3 3000 [(4, true), (15, true)] (sR m g 171)) = some (T [inw m.pc && true, inb m.r7 && inb m.r3], .int .i64 0, 4, hRm (zab_0 m) (memL g)) := by kernel_rfl
theorem oab (hm : m.Ok) (hg : ∀ e, B8 (g e)) (hh : m.halt = false) (h0 : g (ix m.pc) = 171) : Both m g := by
  obtain ⟨r0, r1, r2, r3, r4, r5, r7, sp, pc⟩ := id hm
  cases hf : m.fc
  · exact joinA (m' := (zab_0 m)) hm hh h0 (pab_1 m g _ _) (rab_0 m g) hg
  · exact joinA (m' := (zab_0 m)) hm hh h0 (pab_0 m g _ _) (rab_0 m g) hg
@[simp] def zac_0 (m : Mc) : Mc := { m with fc := false, fp := par (xor8 m.r7 m.r4), fs := decide (128 ≤ xor8 m.r7 m.r4), fx := false, fz := xor8 m.r7 m.r4 == 0, pc := w16 (m.pc + 1), r7 := xor8 m.r7 m.r4 }
theorem pac_0 : endsAt [0, 1] (Ly.run ctx3 3000 [(22, true), (9, true)] (sP m g 172 b1 b2)) = some (T [m.fc == true, inb m.r7 && inb m.r4], .int .i64 0, 5, hPm (zac_0 m) (memL g)) := by kernel_rfl
theorem pac_1 : endsAt [0, 1] (Ly.run ctx3 3000 [(22, false), (9, true)] (sP m g 172 b1 b2)) = some ([(m.fc == true, false), (inb m.r7 && inb m.r4, true)], .int .i64 0, 5, hPm (zac_0 m) (memL g)) := by kernel_rfl
theorem rac_0 : endsAt [0, 1, 2] (Ly.run ctx3 3000 [(4, true), (15, true)] (sR m g 172)) = some (T [inw m.pc && true, inb m.r7 && inb m.r4], .int .i64 0, 4, hRm (zac_0 m) (memL g)) := by kernel_rfl
theorem oac (hm : m.Ok) (hg : ∀ e, B8 (g e)) (hh : m.halt = false) (h0 : g (ix m.pc) = 172) : Both m g := by
  obtain ⟨r0, r1, r2, r3, r4, r5, r7, sp, pc⟩ := id hm
  cases hf : m.fc
  · exact joinA (m' := (zac_0 m)) hm hh h0 (pac_1 m g _ _) (rac_0 m g) hg
  · exact joinA (m' := (zac_0 m)) hm hh h0 (pac_0 m g _ _) (rac_0 m g) hg
@[simp] def zad_0 (m : Mc) : Mc := { m with fc := false, fp := par (xor8 m.r7 m.r5), fs := decide (128 ≤ xor8 m.r7 m.r5), fx := false, fz := xor8 m.r7 m.r5 == 0, pc := w16 (m.pc + 1), r7 := xor8 m.r7 m.r5 }
theorem pad_0 : endsAt [0, 1] (Ly.run ctx3 3000 [(22, true), (9, true)] (sP m g 173 b1 b2)) = some (T [m.fc == true, inb m.r7 && inb m.r5], .int .i64 0, 5, hPm (zad_0 m) (memL g)) := by kernel_rfl
theorem pad_1 : endsAt [0, 1] (Ly.run ctx3 3000 [(22, false), (9, true)] (sP m g 173 b1 b2)) = some ([(m.fc == true, false), (inb m.r7 && inb m.r5, true)], .int .i64 0, 5, hPm (zad_0 m) (memL g)) := by kernel_rfl
theorem rad_0 : endsAt [0, 1, 2] (Ly.run ctx3 3000 [(4, true), (15, true)] (sR m g 173)) = some (T [inw m.pc && true, inb m.r7 && inb m.r5], .int .i64 0, 4, hRm (zad_0 m) (memL g)) := by kernel_rfl
theorem oad (hm : m.Ok) (hg : ∀ e, B8 (g e)) (hh : m.halt = false) (h0 : g (ix m.pc) = 173) : Both m g := by
  obtain ⟨r0, r1, r2, r3, r4, r5, r7, sp, pc⟩ := id hm
  cases hf : m.fc
  · exact joinA (m' := (zad_0 m)) hm hh h0 (pad_1 m g _ _) (rad_0 m g) hg
  · exact joinA (m' := (zad_0 m)) hm hh h0 (pad_0 m g _ _) (rad_0 m g) hg
@[simp] def zae_0 (m : Mc) (g : Nat → Int) : Mc := { m with fc := false, fp := par (xor8 m.r7 (g (ix (or16 (w16 (w16 m.r4 * 256)) (w16 m.r5))))), fs := decide (128 ≤ xor8 m.r7 (g (ix (or16 (w16 (w16 m.r4 * 256)) (w16 m.r5))))), fx := false, fz := xor8 m.r7 (g (ix (or16 (w16 (w16 m.r4 * 256)) (w16 m.r5)))) == 0, pc := w16 (m.pc + 1), r7 := xor8 m.r7 (g (ix (or16 (w16 (w16 m.r4 * 256)) (w16 m.r5)))) }
theorem pae_0 : endsAt [0, 1] (Ly.run ctx3 3000 [(28, true), (0, true), (13, true), (0, true), (1, true), (9, true)] (sP m g 174 b1 b2)) = some (T [(true && lt16 (or16 (w16 (w16 m.r4 * 256)) (w16 m.r5))), bl (ix (or16 (w16 (w16 m.r4 * 256)) (w16 m.r5))), (true && lt16 (or16 (w16 (w16 m.r4 * 256)) (w16 m.r5))), bl (ix (or16 (w16 (w16 m.r4 * 256)) (w16 m.r5))), m.fc == true, inb m.r7 && inb (g (ix (or16 (w16 (w16 m.r4 * 256)) (w16 m.r5))))], .int .i64 0, 5, hPm (zae_0 m g) (memL g)) := by kernel_rfl
theorem pae_1 : endsAt [0, 1] (Ly.run ctx3 3000 [(28, true), (0, true), (13, true), (0, true), (1, false), (9, true)] (sP m g 174 b1 b2)) = some ([((true && lt16 (or16 (w16 (w16 m.r4 * 256)) (w16 m.r5))), true), (bl (ix (or16 (w16 (w16 m.r4 * 256)) (w16 m.r5))), true), ((true && lt16 (or16 (w16 (w16 m.r4 * 256)) (w16 m.r5))), true), (bl (ix (or16 (w16 (w16 m.r4 * 256)) (w16 m.r5))), true), (m.fc == true, false), (inb m.r7 && inb (g (ix (or16 (w16 (w16 m.r4 * 256)) (w16 m.r5)))), true)], .int .i64 0, 5, hPm (zae_0 m g) (memL g)) := by kernel_rfl
theorem rae_0 : endsAt [0, 1, 2] (Ly.run ctx3 3000 [(4, true), (12, true), (0, true), (0, true), (8, true)] (sR m g 174)) = some (T [inw m.pc && true, inb m.r4 && inb m.r5, rg (256 * m.r4 + m.r5), bl (ix (256 * m.r4 + m.r5)), inb m.r7 && inb (g (ix (256 * m.r4 + m.r5)))], .int .i64 0, 4, hRm { m with fc := false, fp := par (xor8 m.r7 (g (ix (256 * m.r4 + m.r5)))), fs := decide (128 ≤ xor8 m.r7 (g (ix (256 * m.r4 + m.r5)))), fx := false, fz := xor8 m.r7 (g (ix (256 * m.r4 + m.r5))) == 0, pc := w16 (m.pc + 1), r7 := xor8 m.r7 (g (ix (256 * m.r4 + m.r5))) } (memL g)) := by kernel_rfl
theorem oae (hm : m.Ok) (hg : ∀ e, B8 (g e)) (hh : m.halt = false) (h0 : g (ix m.pc) = 174) : Both m g := by
  obtain ⟨r0, r1, r2, r3, r4, r5, r7, sp, pc⟩ := id hm
  cases hf : m.fc
  · exact joinA (m' := (zae_0 m g)) hm hh h0 (pae_1 m g _ _) (rae_0 m g) hg
  · exact joinA (m' := (zae_0 m g)) hm hh h0 (pae_0 m g _ _) (rae_0 m g) hg
@[simp] def zaf_0 (m : Mc) : Mc := { m with fc := false, fp := par (xor8 m.r7 m.r7), fs := decide (128 ≤ xor8 m.r7 m.r7), fx := false, fz := xor8 m.r7 m.r7 == 0, pc := w16 (m.pc + 1), r7 := xor8 m.r7 m.r7 }
theorem paf_0 : endsAt [0, 1] (Ly.run ctx3 3000 [(22, true), (9, true)] (sP m g 175 b1 b2)) = some (T [m.fc == true, inb m.r7 && inb m.r7], .int .i64 0, 5, hPm (zaf_0 m) (memL g)) := by kernel_rfl
theorem paf_1 : endsAt [0, 1] (Ly.run ctx3 3000 [(22, false), (9, true)] (sP m g 175 b1 b2)) = some ([(m.fc == true, false), (inb m.r7 && inb m.r7, true)], .int .i64 0, 5, hPm (zaf_0 m) (memL g)) := by kernel_rfl
theorem raf_0 : endsAt [0, 1, 2] (Ly.run ctx3 3000 [(4, true), (15, true)] (sR m g 175)) = some (T [inw m.pc && true, inb m.r7 && inb m.r7], .int .i64 0, 4, hRm (zaf_0 m) (memL g)) := by kernel_rfl
theorem oaf (hm : m.Ok) (hg : ∀ e, B8 (g e)) (hh : m.halt = false) (h0 : g (ix m.pc) = 175) : Both m g := by
  obtain ⟨r0, r1, r2, r3, r4, r5, r7, sp, pc⟩ := id hm
  cases hf : m.fc
  · exact joinA (m' := (zaf_0 m)) hm hh h0 (paf_1 m g _ _) (raf_0 m g) hg
  · exact joinA (m' := (zaf_0 m)) hm hh h0 (paf_0 m g _ _) (raf_0 m g) hg
theorem blk10 (m : Mc) (g : Nat → Int) (hm : m.Ok) (hg : ∀ e, B8 (g e)) (hh : m.halt = false) (h1 : 160 ≤ g (ix m.pc)) (h2 : g (ix m.pc) < 176) : Both m g := by
  have h : g (ix m.pc) = 160 ∨ g (ix m.pc) = 161 ∨ g (ix m.pc) = 162 ∨ g (ix m.pc) = 163 ∨ g (ix m.pc) = 164 ∨ g (ix m.pc) = 165 ∨ g (ix m.pc) = 166 ∨ g (ix m.pc) = 167 ∨ g (ix m.pc) = 168 ∨ g (ix m.pc) = 169 ∨ g (ix m.pc) = 170 ∨ g (ix m.pc) = 171 ∨ g (ix m.pc) = 172 ∨ g (ix m.pc) = 173 ∨ g (ix m.pc) = 174 ∨ g (ix m.pc) = 175 := by omega
  rcases h with h | h | h | h | h | h | h | h | h | h | h | h | h | h | h | h
  · exact oa0 m g hm hg hh h
  · exact oa1 m g hm hg hh h
  · exact oa2 m g hm hg hh h
  · exact oa3 m g hm hg hh h
  · exact oa4 m g hm hg hh h
  · exact oa5 m g hm hg hh h
  · exact oa6 m g hm hg hh h
  · exact oa7 m g hm hg hh h
  · exact oa8 m g hm hg hh h
  · exact oa9 m g hm hg hh h
  · exact oaa m g hm hg hh h
  · exact oab m g hm hg hh h
  · exact oac m g hm hg hh h
  · exact oad m g hm hg hh h
  · exact oae m g hm hg hh h
  · exact oaf m g hm hg hh h
end Go.Proofs.Ytpggoincnebfnaa
namespace Go.Proofs.Ytpggoincnebfnaa
open Go Go.Ly Go.RowKit
variable (m : Mc) (g : Nat → Int) (b1 b2 : Int)
@[simp] def zb0_0 (m : Mc) : Mc := { m with fc := false, fp := par (or8 m.r7 m.r0), fs := decide (128 ≤ or8 m.r7 m.r0), fx := false, fz := or8 m.r7 m.r0 == 0, pc := w16 (m.pc + 1), r7 := or8 m.r7 m.r0 }
theorem pb0_0 : endsAt [0, 1] (Ly.run ctx3 3000 [(22, true), (10, true)] (sP m g 176 b1 b2)) = some (T [m.fc == true, inb m.r7 && inb m.r0], .int .i64 0, 5, hPm (zb0_0 m) (memL g)) := by kernel_rfl
theorem pb0_1 : endsAt [0, 1] (Ly.run ctx3 3000 [(22, false), (10, true)] (sP m g 176 b1 b2)) = some ([(m.fc == true, false), (inb m.r7 && inb m.r0, true)], .int .i64 0, 5, hPm (zb0_0 m) (memL g)) := by kernel_rfl
theorem rb0_0 : endsAt [0, 1, 2] (Ly.run ctx3 3000 [(4, true), (16, true)] (sR m g 176)) = some (T [inw m.pc && true, inb m.r7 && inb m.r0], .int .i64 0, 4, hRm (zb0_0 m) (memL g)) := by kernel_rfl
theorem ob0 (hm : m.Ok) (hg : ∀ e, B8 (g e)) (hh : m.halt = false) (h0 : g (ix m.pc) = 176) : Both m g := by
  obtain ⟨r0, r1, r2, r3, r4, r5, r7, sp, pc⟩ := id hm
  cases hf : m.fc
  · exact joinA (m' := (zb0_0 m)) hm hh h0 (pb0_1 m g _ _) (rb0_0 m g) hg
  · exact joinA (m' := (zb0_0 m)) hm hh h0 (pb0_0 m g _ _) (rb0_0 m g) hg
@[simp] def zb1_0 (m : Mc) : Mc := { m with fc := false, fp := par (or8 m.r7 m.r1), fs := decide (128 ≤ or8 m.r7 m.r1), fx := false, fz := or8 m.r7 m.r1 == 0, pc := w16 (m.pc + 1), r7 := or8 m.r7 m.r1 }
theorem pb1_0 : endsAt [0, 1] (Ly.run ctx3 3000 [(22, true), (10, true)] (sP m g 177 b1 b2)) = some (T [m.fc == true, inb m.r7 && inb m.r1], .int .i64 0, 5, hPm (zb1_0 m) (memL g)) := by kernel_rfl
theorem pb1_1 : endsAt [0, 1] (Ly.run ctx3 3000 [(22, false), (10, true)] (sP m g 177 b1 b2)) = some ([(m.fc == true, false), (inb m.r7 && inb m.r1, true)], .int .i64 0, 5, hPm (zb1_0 m) (memL g)) := by kernel_rfl
theorem rb1_0 : endsAt [0, 1, 2] (Ly.run ctx3 3000 [(4, true), (16, true)] (sR m g 177)) = some (T [inw m.pc && true, inb m.r7 && inb m.r1], .int .i64 0, 4, hRm (zb1_0 m) (memL g)) := by kernel_rfl
theorem ob1 (hm : m.Ok) (hg : ∀ e, B8 (g e)) (hh : m.halt = false) (h0 : g (ix m.pc) = 177) : Both m g := by
  obtain ⟨r0, r1, r2, r3, r4, r5, r7, sp, pc⟩ := id hm
  cases hf : m.fc
  · exact joinA (m' := (zb1_0 m)) hm hh h0 (pb1_1 m g _ _) (rb1_0 m g) hg
  · exact joinA (m' := (zb1_0 m)) hm hh h0 (pb1_0 m g _ _) (rb1_0 m g) hg
@[simp] def zb2_0 (m : Mc) : Mc := { m with fc := false, fp := par (or8 m.r7 m.r2), fs := decide (128 ≤ or8 m.r7 m.r2), fx := false, fz := or8 m.r7 m.r2 == 0, pc := w16 (m.pc + 1), r7 := or8 m.r7 m.r2 }
theorem pb2_0 : endsAt [0, 1] (Ly.run ctx3 3000 [(22, true), (10, true)] (sP m g 178 b1 b2)) = some (T [m.fc == true, inb m.r7 && inb m.r2], .int .i64 0, 5, hPm (zb2_0 m) (memL g)) := by kernel_rfl
theorem pb2_1 : endsAt [0, 1] (Ly.run ctx3 3000 [(22, false), (10, true)] (sP m g 178 b1 b2)) = some ([(m.fc == true, false), (inb m.r7 && inb m.r2, true)], .int .i64 0, 5, hPm (zb2_0 m) (memL g)) := by kernel_rfl
theorem rb2_0 : endsAt [0, 1, 2] (Ly.run ctx3 3000 [(4, true), (16, true)] (sR m g 178)) = some (T [inw m.pc && true, inb m.r7 && inb m.r2], .int .i64 0, 4, hRm (zb2_0 m) (memL g)) := by kernel_rfl
theorem ob2 (hm : m.Ok) (hg : ∀ e, B8 (g e)) (hh : m.halt = false) (h0 : g (ix m.pc) = 178) : Both m g := by
  obtain ⟨r0, r1, r2, r3, r4, r5, r7, sp, pc⟩ := id hm
  cases hf : m.fc
  · exact joinA (m' := (zb2_0 m)) hm hh h0 (pb2_1 m g _ _) (rb2_0 m g) hg
  · exact joinA (m' := (zb2_0 m)) hm hh h0 (pb2_0 m g _ _) (rb2_0 m g) hg
@[simp] def zb3_0 (m : Mc) : Mc := { m with fc := false, fp := par (or8 m.r7 m.r3), fs := decide (128 ≤ or8 m.r7 m.r3), fx := false, fz := or8 m.r7 m.r3 == 0, pc := w16 (m.pc + 1), r7 := or8 m.r7 m.r3 }
theorem pb3_0 : endsAt [0, 1] (Ly.run ctx3 3000 [(22, true), (10, true)] (sP m g 179 b1 b2)) = some (T [m.fc == true, inb m.r7 && inb m.r3], .int .i64 0, 5, hPm (zb3_0 m) (memL g)) := by kernel_rfl
theorem pb3_1 : endsAt [0, 1] (Ly.run ctx3 3000 [(22, false), (10, true)] (sP m g 179 b1 b2)) = some ([(m.fc == true, false), (inb m.r7 && inb m.r3, true)], .int .i64 0, 5, hPm (zb3_0 m) (memL g)) := by kernel_rfl
theorem rb3_0 : endsAt [0, 1, 2] (Ly.run ctx3 3000 [(4, true), (16, true)] (sR m g 179)) = some (T [inw m.pc && true, inb m.r7 && inb m.r3], .int .i64 0, 4, hRm (zb3_0 m) (memL g)) := by kernel_rfl
theorem ob3 (hm : m.Ok) (hg : ∀ e, B8 (g e)) (hh : m.halt = false) (h0 : g (ix m.pc) = 179) : Both m g := by
  obtain ⟨r0, r1, r2, r3, r4, r5, r7, sp, pc⟩ := id hm
  cases hf : m.fc
  · exact joinA (m' := (zb3_0 m)) hm hh h0 (pb3_1 m g _ _) (rb3_0 m g) hg
  · exact joinA (m' := (zb3_0 m)) hm hh h0 (pb3_0 m g _ _) (rb3_0 m g) hg
@[simp] def zb4_0 (m : Mc) : Mc := { m with fc := false, fp := par (or8 m.r7 m.r4), fs := decide (128 ≤ or8 m.r7 m.r4), fx := false, fz := or8 m.r7 m.r4 == 0, pc := w16 (m.pc + 1), r7 := or8 m.r7 m.r4 }
theorem pb4_0 : endsAt [0, 1] (Ly.run ctx3 3000 [(22, true), (10, true)] (sP m g 180 b1 b2)) = some (T [m.fc == true, inb m.r7 && inb m.r4], .int .i64 0, 5, hPm (zb4_0 m) (memL g)) := by kernel_rfl
theorem pb4_1 : endsAt [0, 1] (Ly.run ctx3 3000 [(22, false), (10, true)] (sP m g 180 b1 b2)) = some ([(m.fc == true, false), (inb m.r7 && inb m.r4, true)], .int .i64 0, 5, hPm (zb4_0 m) (memL g)) := by kernel_rfl
theorem rb4_0 : endsAt [0, 1, 2] (Ly.run ctx3 3000 [(4, true), (16, true)] (sR m g 180)) = some (T [inw m.pc && true, inb m.r7 && inb m.r4], .int .i64 0, 4, hRm (zb4_0 m) (memL g)) := by kernel_rfl
theorem ob4 (hm : m.Ok) (hg : ∀ e, B8 (g e)) (hh : m.halt = false) (h0 : g (ix m.pc) = 180) : Both m g := by
  obtain ⟨r0, r1, r2, r3, r4, r5, r7, sp, pc⟩ := id hm
  cases hf : m.fc
  · exact joinA (m' := (zb4_0 m)) hm hh h0 (pb4_1 m g _ _) (rb4_0 m g) hg
  · exact joinA (m' := (zb4_0 m)) hm hh h0 (pb4_0 m g _ _) (rb4_0 m g) hg
@[simp] def zb5_0 (m : Mc) : Mc := { m with fc := false, fp := par (or8 m.r7 m.r5), fs := decide (128 ≤ or8 m.r7 m.r5), fx := false, fz := or8 m.r7 m.r5 == 0, pc := w16 (m.pc + 1), r7 := or8 m.r7 m.r5 }
theorem pb5_0 : endsAt [0, 1] (Ly.run ctx3 3000 [(22, true), (10, true)] (sP m g 181 b1 b2)) = some (T [m.fc == true, inb m.r7 && inb m.r5], .int .i64 0, 5, hPm (zb5_0 m) (memL g)) := by kernel_rfl
theorem pb5_1 : endsAt [0, 1] (Ly.run ctx3 3000 [(22, false), (10, true)] (sP m g 181 b1 b2)) = some ([(m.fc == true, false), (inb m.r7 && inb m.r5, true)], .int .i64 0, 5, hPm (zb5_0 m) (memL g)) := by kernel_rfl
theorem rb5_0 : endsAt [0, 1, 2] (Ly.run ctx3 3000 [(4, true), (16, true)] (sR m g 181)) = some (T [inw m.pc && true, inb m.r7 && inb m.r5], .int .i64 0, 4, hRm (zb5_0 m) (memL g)) := by kernel_rfl
theorem ob5 (hm : m.Ok) (hg : ∀ e, B8 (g e)) (hh : m.halt = false) (h0 : g (ix m.pc) = 181) : Both m g := by
  obtain ⟨r0, r1, r2, r3, r4, r5, r7, sp, pc⟩ := id hm
  cases hf : m.fc
  · exact joinA (m' := (zb5_0 m)) hm hh h0 (pb5_1 m g _ _) (rb5_0 m g) hg
  · exact joinA (m' := (zb5_0 m)) hm hh h0 (pb5_0 m g _ _) (rb5_0 m g) hg
@[simp] def zb6_0 (m : Mc) (g : Nat → Int) : Mc := { m with fc := false, fp := par (or8 m.r7 (g (ix (or16 (w16 (w16 m.r4 * 256)) (w16 m.r5))))), fs := decide (128 ≤ or8 m.r7 (g (ix (or16 (w16 (w16 m.r4 * 256)) (w16 m.r5))))), fx := false, fz := or8 m.r7 (g (ix (or16 (w16 (w16 m.r4 * 256)) (w16 m.r5)))) == 0, pc := w16 (m.pc + 1), r7 := or8 m.r7 (g (ix (or16 (w16 (w16 m.r4 * 256)) (w16 m.r5)))) }
theorem pb6_0 : endsAt [0, 1] (Ly.run ctx3 3000 [(28, true), (0, true), (13, true), (0, true), (1, true), (10, true)] (sP m g 182 b1 b2)) = some (T [(true && lt16 (or16 (w16 (w16 m.r4 * 256)) (w16 m.r5))), bl (ix (or16 (w16 (w16 m.r4 * 256)) (w16 m.r5))), (true && lt16 (or16 (w16 (w16 m.r4 * 256)) (w16 m.r5))), bl (ix (or16 (w16 (w16 m.r4 * 256)) (w16 m.r5))), m.fc == true, inb m.r7 && inb (g (ix (or16 (w16 (w16 m.r4 * 256)) (w16 m.r5))))], .int .i64 0, 5, hPm (zb6_0 m g) (memL g)) := by kernel_rfl
theorem pb6_1 : endsAt [0, 1] (Ly.run ctx3 3000 [(28, true), (0, true), (13, true), (0, true), (1, false), (10, true)] (sP m g 182 b1 b2)) = some ([((true && lt16 (or16 (w16 (w16 m.r4 * 256)) (w16 m.r5))), true), (bl (ix (or16 (w16 (w16 m.r4 * 256)) (w16 m.r5))), true), ((true && lt16 (or16 (w16 (w16 m.r4 * 256)) (w16 m.r5))), true), (bl (ix (or16 (w16 (w16 m.r4 * 256)) (w16 m.r5))), true), (m.fc == true, false), (inb m.r7 && inb (g (ix (or16 (w16 (w16 m.r4 * 256)) (w16 m.r5)))), true)], .int .i64 0, 5, hPm (zb6_0 m g) (memL g)) := by kernel_rfl
theorem rb6_0 : endsAt [0, 1, 2] (Ly.run ctx3 3000 [(4, true), (12, true), (0, true), (0, true), (9, true)] (sR m g 182)) = some (T [inw m.pc && true, inb m.r4 && inb m.r5, rg (256 * m.r4 + m.r5), bl (ix (256 * m.r4 + m.r5)), inb m.r7 && inb (g (ix (256 * m.r4 + m.r5)))], .int .i64 0, 4, hRm { m with fc := false, fp := par (or8 m.r7 (g (ix (256 * m.r4 + m.r5)))), fs := decide (128 ≤ or8 m.r7 (g (ix (256 * m.r4 + m.r5)))), fx := false, fz := or8 m.r7 (g (ix (256 * m.r4 + m.r5))) == 0, pc := w16 (m.pc + 1), r7 := or8 m.r7 (g (ix (256 * m.r4 + m.r5))) } (memL g)) := by kernel_rfl
theorem ob6 (hm : m.Ok) (hg : ∀ e, B8 (g e)) (hh : m.halt = false) (h0 : g (ix m.pc) = 182) : Both m g := by
  obtain ⟨r0, r1, r2, r3, r4, r5, r7, sp, pc⟩ := id hm
  cases hf : m.fc
  · exact joinA (m' := (zb6_0 m g)) hm hh h0 (pb6_1 m g _ _) (rb6_0 m g) hg
  · exact joinA (m' := (zb6_0 m g)) hm hh h0 (pb6_0 m g _ _) (rb6_0 m g) hg
@[simp] def zb7_0 (m : Mc) : Mc := { m with fc := false, fp := par (or8 m.r7 m.r7), fs := decide (128 ≤ or8 m.r7 m.r7), fx := false, fz := or8 m.r7 m.r7 == 0, pc := w16 (m.pc + 1), r7 := or8 m.r7 m.r7 }
theorem pb7_0 : endsAt [0, 1] (Ly.run ctx3 3000 [(22, true), (10, true)] (sP m g 183 b1 b2)) = some (T [m.fc == true, inb m.r7 && inb m.r7], .int .i64 0, 5, hPm (zb7_0 m) (memL g)) := by kernel_rfl
theorem pb7_1 : endsAt [0, 1] (Ly.run ctx3 3000 [(22, false), (10, true)] (sP m g 183 b1 b2)) = some ([(m.fc == true, false), (inb m.r7 && inb m.r7, true)], .int .i64 0, 5, hPm (zb7_0 m) (memL g)) := by kernel_rfl
theorem rb7_0 : endsAt [0, 1, 2] (Ly.run ctx3 3000 [(4, true), (16, true)] (sR m g 183)) = some (T [inw m.pc && true, inb m.r7 && inb m.r7], .int .i64 0, 4, hRm (zb7_0 m) (memL g)) := by kernel_rfl
theorem ob7 (hm : m.Ok) (hg : ∀ e, B8 (g e)) (hh : m.halt = false) (h0 : g (ix m.pc) = 183) : Both m g := by
  obtain ⟨r0, r1, r2, r3, r4, r5, r7, sp, pc⟩ := id hm
  cases hf : m.fc
  · exact joinA (m' := (zb7_0 m)) hm hh h0 (pb7_1 m g _ _) (rb7_0 m g) hg
  · exact joinA (m' := (zb7_0 m)) hm hh h0 (pb7_0 m g _ _) (rb7_0 m g) hg
@[simp] def zb8_0 (m : Mc) : Mc := { m with fc := decide (m.r7 - m.r0 - 0 < 0), fp := par ((m.r7 - m.r0 - 0) % 256), fs := decide (128 ≤ (m.r7 - m.r0 - 0) % 256), fx := decide (15 < m.r7 % 16 + 15 - m.r0 % 16 + 1), fz := (m.r7 - m.r0 - 0) % 256 == 0, pc := w16 (m.pc + 1) }
theorem pb8_0 : endsAt [0, 1] (Ly.run ctx3 3000 [(22, true), (11, true)] (sP m g 184 b1 b2)) = some (T [m.fc == true, inb m.r7 && inb m.r0], .int .i64 0, 5, hPm (zb8_0 m) (memL g)) := by kernel_rfl
theorem pb8_1 : endsAt [0, 1] (Ly.run ctx3 3000 [(22, false), (11, true)] (sP m g 184 b1 b2)) = some ([(m.fc == true, false), (inb m.r7 && inb m.r0, true)], .int .i64 0, 5, hPm (zb8_0 m) (memL g)) := by kernel_rfl
theorem rb8_0 : endsAt [0, 1, 2] (Ly.run ctx3 3000 [(4, true), (19, true)] (sR m g 184)) = some (T [inw m.pc && true, inb m.r7 && inb m.r0], .int .i64 0, 4, hRm (zb8_0 m) (memL g)) := by kernel_rfl
theorem ob8 (hm : m.Ok) (hg : ∀ e, B8 (g e)) (hh : m.halt = false) (h0 : g (ix m.pc) = 184) : Both m g := by
  obtain ⟨r0, r1, r2, r3, r4, r5, r7, sp, pc⟩ := id hm
  cases hf : m.fc
  · exact joinA (m' := (zb8_0 m)) hm hh h0 (pb8_1 m g _ _) (rb8_0 m g) hg
  · exact joinA (m' := (zb8_0 m)) hm hh h0 (pb8_0 m g _ _) (rb8_0 m g) hg
@[simp] def zb9_0 (m : Mc) : Mc := { m with fc := decide (m.r7 - m.r1 - 0 < 0), fp := par ((m.r7 - m.r1 - 0) % 256), fs := decide (128 ≤ (m.r7 - m.r1 - 0) % 256), fx := decide (15 < m.r7 % 16 + 15 - m.r1 % 16 + 1), fz := (m.r7 - m.r1 - 0) % 256 == 0, pc := w16 (m.pc + 1) }
theorem pb9_0 : endsAt [0, 1] (Ly.run ctx3 3000 [(22, true), (11, true)] (sP m g 185 b1 b2)) = some (T [m.fc == true, inb m.r7 && inb m.r1], .int .i64 0, 5, hPm (zb9_0 m) (memL g)) := by kernel_rfl
theorem pb9_1 : endsAt [0, 1] (Ly.run ctx3 3000 [(22, false), (11, true)] (sP m g 185 b1 b2)) = some ([(m.fc == true, false), (inb m.r7 && inb m.r1, true)], .int .i64 0, 5, hPm (zb9_0 m) (memL g)) := by kernel_rfl
theorem rb9_0 : endsAt [0, 1, 2] (Ly.run ctx3 3000 [(4, true), (19, true)] (sR m g 185)) = some (T [inw m.pc && true, inb m.r7 && inb m.r1], .int .i64 0, 4, hRm (zb9_0 m) (memL g)) := by kernel_rfl
theorem ob9 (hm : m.Ok) (hg : ∀ e, B8 (g e)) (hh : m.halt = false) (h0 : g (ix m.pc) = 185) : Both m g := by
  obtain ⟨r0, r1, r2, r3, r4, r5, r7, sp, pc⟩ := id hm
  cases hf : m.fc
  · exact joinA (m' := (zb9_0 m)) hm hh h0 (pb9_1 m g _ _) (rb9_0 m g) hg
  · exact joinA (m' := (zb9_0 m)) hm hh h0 (pb9_0 m g _ _) (rb9_0 m g) hg
@[simp] def zba_0 (m : Mc) : Mc := { m with fc := decide (m.r7 - m.r2 - 0 < 0), fp := par ((m.r7 - m.r2 - 0) % 256), fs := decide (128 ≤ (m.r7 - m.r2 - 0) % 256), fx := decide (15 < m.r7 % 16 + 15 - m.r2 % 16 + 1), fz := (m.r7 - m.r2 - 0) % 256 == 0, pc := w16 (m.pc + 1) }
theorem pba_0 : endsAt [0, 1] (Ly.run ctx3 3000 [(22, true), (11, true)] (sP m g 186 b1 b2)) = some (T [m.fc == true, inb m.r7 && inb m.r2], .int .i64 0, 5, hPm (zba_0 m) (memL g)) := by kernel_rfl
theorem pba_1 : endsAt [0, 1] (Ly.run ctx3 3000 [(22, false), (11, true)] (sP m g 186 b1 b2)) = some ([(m.fc == true, false), (inb m.r7 && inb m.r2, true)], .int .i64 0, 5, hPm (zba_0 m) (memL g)) := by kernel_rfl
theorem rba_0 : endsAt [0, 1, 2] (Ly.run ctx3 3000 [(4, true), (19, true)] (sR m g 186)) = some (T [inw m.pc && true, inb m.r7 && inb m.r2], .int .i64 0, 4, hRm (zba_0 m) (memL g)) := by kernel_rfl
theorem oba (hm : m.Ok) (hg : ∀ e, B8 (g e)) (hh : m.halt = false) (h0 : g (ix m.pc) = 186) : Both m g := by
  obtain ⟨r0, r1, r2, r3, r4, r5, r7, sp, pc⟩ := id hm
  cases hf : m.fc
  · exact joinA (m' := (zba_0 m)) hm hh h0 (pba_1 m g _ _) (rba_0 m g) hg
  · exact joinA (m' := (zba_0 m)) hm hh h0 (pba_0 m g _ _) (rba_0 m g) hg
@[simp] def zbb_0 (m : Mc) : Mc := { m with fc := decide (m.r7 - m.r3 - 0 < 0), fp := par ((m.r7 - m.r3 - 0) % 256), fs := decide (128 ≤ (m.r7 - m.r3 - 0) % 256), fx := decide (15 < m.r7 % 16 + 15 - m.r3 % 16 + 1), fz := (m.r7 - m.r3 - 0) % 256 == 0, pc := w16 (m.pc + 1) }
theorem pbb_0 : endsAt [0, 1] (Ly.run ctx3 3000 [(22, true), (11, true)] (sP m g 187 b1 b2)) = some (T [m.fc == true, inb m.r7 && inb m.r3], .int .i64 0, 5, hPm (zbb_0 m) (memL g)) := by kernel_rfl
theorem pbb_1 : endsAt [0, 1] (Ly.run ctx3 3000 [(22, false), (11, true)] (sP m g 187 b1 b2)) = some ([(m.fc == true, false), (inb m.r7 && inb m.r3, true)], .int .i64 0, 5, hPm (zbb_0 m) (memL g)) := by kernel_rfl
theorem rbb_0 : endsAt [0, 1, 2] (Ly.run ctx3 3000 [(4, true), (19, true)] (sR m g 187)) = some (T [inw m.pc && true, inb m.r7 && inb m.r3], .int .i64 0, 4, hRm (zbb_0 m) (memL g)) := by kernel_rfl
theorem obb (hm : m.Ok) (hg : ∀ e, B8 (g e)) (hh : m.halt = false) (h0 : g (ix m.pc) = 187) : Both m g := by
  obtain ⟨r0, r1, r2, r3, r4, r5, r7, sp, pc⟩ := id hm
  cases hf : m.fc
  · exact joinA (m' := (zbb_0 m)) hm hh h0 (pbb_1 m g _ _) (rbb_0 m g) hg
  · exact joinA (m' := (zbb_0 m)) hm hh h0 (pbb_0 m g _ _) (rbb_0 m g) hg
@[simp] def zbc_0 (m : Mc) : Mc := { m with fc := decide (m.r7 - m.r4 - 0 < 0), fp := par ((m.r7 - m.r4 - 0) % 256), fs := decide (128 ≤ (m.r7 - m.r4 - 0) % 256), fx := decide (15 < m.r7 % 16 + 15 - m.r4 % 16 + 1), fz := (m.r7 - m.r4 - 0) % 256 == 0, pc := w16 (m.pc + 1) }
theorem pbc_0 : endsAt [0, 1] (Ly.run ctx3 3000 [(22, true), (11, true)] (sP m g 188 b1 b2)) = some (T [m.fc == true, inb m.r7 && inb m.r4], .int .i64 0, 5, hPm (zbc_0 m) (memL g)) := by kernel_rfl
theorem pbc_1 : endsAt [0, 1] (Ly.run ctx3 3000 [(22, false), (11, true)] (sP m g 188 b1 b2)) = some ([(m.fc == true, false), (inb m.r7 && inb m.r4, true)], .int .i64 0, 5, hPm (zbc_0 m) (memL g)) := by kernel_rfl
theorem rbc_0 : endsAt [0, 1, 2] (Ly.run ctx3 3000 [(4, true), (19, true)] (sR m g 188)) = some (T [inw m.pc && true, inb m.r7 && inb m.r4], .int .i64 0, 4, hRm (zbc_0 m) (memL g)) := by kernel_rfl
theorem obc (hm : m.Ok) (hg : ∀ e, B8 (g e)) (hh : m.halt = false) (h0 : g (ix m.pc) = 188) : Both m g := by
  obtain ⟨r0, r1, r2, r3, r4, r5, r7, sp, pc⟩ := id hm
  cases hf : m.fc
  · exact joinA (m' := (zbc_0 m)) hm hh h0 (pbc_1 m g _ _) (rbc_0 m g) hg
  · exact joinA (m' := (zbc_0 m)) hm hh h0 (pbc_0 m g _ _) (rbc_0 m g) hg
@[simp] def zbd_0 (m : Mc) : Mc := { m with fc := decide (m.r7 - m.r5 - 0 < 0), fp := par ((m.r7 - m.r5 - 0) % 256), fs := decide (128 ≤ (m.r7 - m.r5 - 0) % 256), fx := decide (15 < m.r7 % 16 + 15 - m.r5 % 16 + 1), fz := (m.r7 - m.r5 - 0) % 256 == 0, pc := w16 (m.pc + 1) }
theorem pbd_0 : endsAt [0, 1] (Ly.run ctx3 3000 [(22, true), (11, true)] (sP m g 189 b1 b2)) = some (T [m.fc == true, inb m.r7 && inb m.r5], .int .i64 0, 5, hPm (zbd_0 m) (memL g)) := by kernel_rfl
theorem pbd_1 : endsAt [0, 1] (Ly.run ctx3 3000 [(22, false), (11, true)] (sP m g 189 b1 b2)) = some ([(m.fc == true, false), (inb m.r7 && inb m.r5, true)], .int .i64 0, 5, hPm (zbd_0 m) (memL g)) := by kernel_rfl
theorem rbd_0 : endsAt [0, 1, 2] (Ly.run ctx3 3000 [(4, true), (19, true)] (sR m g 189)) = some (T [inw m.pc && true, inb m.r7 && inb m.r5], .int .i64 0, 4, hRm (zbd_0 m) (memL g)) := by kernel_rfl
theorem obd (hm : m.Ok) (hg : ∀ e, B8 (g e)) (hh : m.halt = false) (h0 : g (ix m.pc) = 189) : Both m g := by
  obtain ⟨r0, r1, r2, r3, r4, r5, r7, sp, pc⟩ := id hm
  cases hf : m.fc
  · exact joinA (m' := (zbd_0 m)) hm hh h0 (pbd_1 m g _ _) (rbd_0 m g) hg
  · exact joinA (m' := (zbd_0 m)) hm hh h0 (pbd_0 m g _ _) (rbd_0 m g) hg
@[simp] def zbe_0 (m : Mc) (g : Nat → Int) : Mc := { m with fc := decide (m.r7 - g (ix (or16 (w16 (w16 m.r4 * 256)) (w16 m.r5))) - 0 < 0), fp := par ((m.r7 - g (ix (or16 (w16 (w16 m.r4 * 256)) (w16 m.r5))) - 0) % 256), fs := decide (128 ≤ (m.r7 - g (ix (or16 (w16 (w16 m.r4 * 256)) (w16 m.r5))) - 0) % 256), fx := decide (15 < m.r7 % 16 + 15 - g (ix (or16 (w16 (w16 m.r4 * 256)) (w16 m.r5))) % 16 + 1), fz := (m.r7 - g (ix (or16 (w16 (w16 m.r4 * 256)) (w16 m.r5))) - 0) % 256 == 0, pc := w16 (m.pc + 1) }
theorem pbe_0 : endsAt [0, 1] (Ly.run ctx3 3000 [(28, true), (0, true), (13, true), (0, true), (1, true), (11, true)] (sP m g 190 b1 b2)) = some (T [(true && lt16 (or16 (w16 (w16 m.r4 * 256)) (w16 m.r5))), bl (ix (or16 (w16 (w16 m.r4 * 256)) (w16 m.r5))), (true && lt16 (or16 (w16 (w16 m.r4 * 256)) (w16 m.r5))), bl (ix (or16 (w16 (w16 m.r4 * 256)) (w16 m.r5))), m.fc == true, inb m.r7 && inb (g (ix (or16 (w16 (w16 m.r4 * 256)) (w16 m.r5))))], .int .i64 0, 5, hPm (zbe_0 m g) (memL g)) := by kernel_rfl
theorem pbe_1 : endsAt [0, 1] (Ly.run ctx3 3000 [(28, true), (0, true), (13, true), (0, true), (1, false), (11, true)] (sP m g 190 b1 b2)) = some ([((true && lt16 (or16 (w16 (w16 m.r4 * 256)) (w16 m.r5))), true), (bl (ix (or16 (w16 (w16 m.r4 * 256)) (w16 m.r5))), true), ((true && lt16 (or16 (w16 (w16 m.r4 * 256)) (w16 m.r5))), true), (bl (ix (or16 (w16 (w16 m.r4 * 256)) (w16 m.r5))), true), (m.fc == true, false), (inb m.r7 && inb (g (ix (or16 (w16 (w16 m.r4 * 256)) (w16 m.r5)))), true)], .int .i64 0, 5, hPm (zbe_0 m g) (memL g)) := by kernel_rfl
theorem rbe_0 : endsAt [0, 1, 2] (Ly.run ctx3 3000 [(4, true), (12, true), (0, true), (0, true), (12, true)] (sR m g 190)) = some (T [inw m.pc && true, inb m.r4 && inb m.r5, rg (256 * m.r4 + m.r5), bl (ix (256 * m.r4 + m.r5)), inb m.r7 && inb (g (ix (256 * m.r4 + m.r5)))], .int .i64 0, 4, hRm { m with fc := decide (m.r7 - g (ix (256 * m.r4 + m.r5)) - 0 < 0), fp := par ((m.r7 - g (ix (256 * m.r4 + m.r5)) - 0) % 256), fs := decide (128 ≤ (m.r7 - g (ix (256 * m.r4 + m.r5)) - 0) % 256), fx := decide (15 < m.r7 % 16 + 15 - g (ix (256 * m.r4 + m.r5)) % 16 + 1), fz := (m.r7 - g (ix (256 * m.r4 + m.r5)) - 0) % 256 == 0, pc := w16 (m.pc + 1) } (memL g)) := by kernel_rfl
theorem obe (hm : m.Ok) (hg : ∀ e, B8 (g e)) (hh : m.halt = false) (h0 : g (ix m.pc) = 190) : Both m g := by
  obtain ⟨r0, r1, r2, r3, r4, r5, r7, sp, pc⟩ := id hm
  cases hf : m.fc
  · exact joinA (m' := (zbe_0 m g)) hm hh h0 (pbe_1 m g _ _) (rbe_0 m g) hg
  · exact joinA (m' := (zbe_0 m g)) hm hh h0 (pbe_0 m g _ _) (rbe_0 m g) hg
@[simp] def zbf_0 (m : Mc) : Mc := { m with fc := decide (m.r7 - m.r7 - 0 < 0), fp := par ((m.r7 - m.r7 - 0) % 256), fs := decide (128 ≤ (m.r7 - m.r7 - 0) % 256), fx := decide (15 < m.r7 % 16 + 15 - m.r7 % 16 + 1), fz := (m.r7 - m.r7 - 0) % 256 == 0, pc := w16 (m.pc + 1) }
theorem pbf_0 : endsAt [0, 1] (Ly.run ctx3 3000 [(22, true), (11, true)] (sP m g 191 b1 b2)) = some (T [m.fc == true, inb m.r7 && inb m.r7], .int .i64 0, 5, hPm (zbf_0 m) (memL g)) := by kernel_rfl
theorem pbf_1 : endsAt [0, 1] (Ly.run ctx3 3000 [(22, false), (11, true)] (sP m g 191 b1 b2)) = some ([(m.fc == true, false), (inb m.r7 && inb m.r7, true)], .int .i64 0, 5, hPm (zbf_0 m) (memL g)) := by kernel_rfl
theorem rbf_0 : endsAt [0, 1, 2] (Ly.run ctx3 3000 [(4, true), (19, true)] (sR m g 191)) = some (T [inw m.pc && true, inb m.r7 && inb m.r7], .int .i64 0, 4, hRm (zbf_0 m) (memL g)) := by kernel_rfl
theorem obf (hm : m.Ok) (hg : ∀ e, B8 (g e)) (hh : m.halt = false) (h0 : g (ix m.pc) = 191) : Both m g := by
  obtain ⟨r0, r1, r2, r3, r4, r5, r7, sp, pc⟩ := id hm
  cases hf : m.fc
  · exact joinA (m' := (zbf_0 m)) hm hh h0 (pbf_1 m g _ _) (rbf_0 m g) hg
  · exact joinA (m' := (zbf_0 m)) hm hh h0 (pbf_0 m g _ _) (rbf_0 m g) hg
theorem blk11 (m : Mc) (g : Nat → Int) (hm : m.Ok) (hg : ∀ e, B8 (g e)) (hh : m.halt = false) (h1 : 176 ≤ g (ix m.pc)) (h2 : g (ix m.pc) < 192) : Both m g := by
  have h : g (ix m.pc) = 176 ∨ g (ix m.pc) = 177 ∨ g (ix m.pc) = 178 ∨ g (ix m.pc) = 179 ∨ g (ix m.pc) = 180 ∨ g (ix m.pc) = 181 ∨ g (ix m.pc) = 182 ∨ g (ix m.pc) = 183 ∨ g (ix m.pc) = 184 ∨ g (ix m.pc) = 185 ∨ g (ix m.pc) = 186 ∨ g (ix m.pc) = 187 ∨ g (ix m.pc) = 188 ∨ g (ix m.pc) = 189 ∨ g (ix m.pc) = 190 ∨ g (ix m.pc) = 191 := by omega
  rcases h with h | h | h | h | h | h | h | h | h | h | h | h | h | h | h | h
  · exact ob0 m g hm hg hh h
  · exact ob1 m g hm hg hh h
  · exact ob2 m g hm hg hh h
  · exact ob3 m g hm hg hh h
  · exact ob4 m g hm hg hh h
  · exact ob5 m g hm hg hh h
  · exact ob6 m g hm hg hh h
  · exact ob7 m g hm hg hh h
  · exact ob8 m g hm hg hh h
  · exact ob9 m g hm hg hh h
  · exact oba m g hm hg hh h
  · exact obb m g hm hg hh h
  · exact obc m g hm hg hh h
  · exact obd m g hm hg hh h
  · exact obe m g hm hg hh h
  · exact obf m g hm hg hh h
end Go.Proofs.Ytpggoincnebfnaa
namespace Go.Proofs.Ytpggoincnebfnaa
open Go Go.Ly Go.RowKit
variable (m : Mc) (g : Nat → Int) (b1 b2 : Int)
@[simp] def zc0_0 (m : Mc) (g : Nat → Int) : Mc := { m with pc := or16 (w16 (g (ix (w16 (w16 (m.sp + 2) - 2))))) (w16 (w16 (g (ix (w16 (w16 (w16 (m.sp + 2) - 2) + 1)))) * 256)), sp := w16 (m.sp + 2) }
theorem pc0_0 : endsAt [0, 1] (Ly.run ctx3 3000 [(43, true), (0, true), (0, true), (0, true), (0, true)] (sP m g 192 b1 b2)) = some (T [m.fz == false, rg (w16 (w16 (m.sp + 2) - 2)), bl (ix (w16 (w16 (m.sp + 2) - 2))), rg (w16 (w16 (w16 (m.sp + 2) - 2) + 1)), bl (ix (w16 (w16 (w16 (m.sp + 2) - 2) + 1)))], .int .i64 0, 6, hPm (zc0_0 m g) (memL g)) := by kernel_rfl
theorem pc0_1 : endsAt [0, 1] (Ly.run ctx3 3000 [(43, false)] (sP m g 192 b1 b2)) = some ([(m.fz == false, false)], .int .i64 0, 6, hPm { m with pc := w16 (m.pc + 1) } (memL g)) := by kernel_rfl
theorem rc0_0 : endsAt [0, 1, 2] (Ly.run ctx3 3000 [(4, true), (46, true), (0, true), (0, true), (0, true), (0, true), (0, true), (0, true), (0, true)] (sR m g 192)) = some (T [inw m.pc && true, !m.fz, inw m.sp && true, rg (w16 (m.sp + 1)), bl (ix (w16 (m.sp + 1))), rg (m.sp), bl (ix m.sp), inb (g (ix (w16 (m.sp + 1)))) && inb (g (ix m.sp)), inw m.sp && true], .int .i64 0, 4, hRm { m with pc := 256 * g (ix (w16 (m.sp + 1))) + g (ix m.sp), sp := w16 (m.sp + 2) } (memL g)) := by kernel_rfl
theorem rc0_1 : endsAt [0, 1, 2] (Ly.run ctx3 3000 [(4, true), (46, false)] (sR m g 192)) = some ([(inw m.pc && true, true), (!m.fz, false)], .int .i64 0, 4, hRm { m with pc := w16 (m.pc + 1) } (memL g)) := by kernel_rfl
theorem oc0 (hm : m.Ok) (hg : ∀ e, B8 (g e)) (hh : m.halt = false) (h0 : g (ix m.pc) = 192) : Both m g := by
  obtain ⟨r0, r1, r2, r3, r4, r5, r7, sp, pc⟩ := id hm
  cases hf : m.fz
  · exact joinA (m' := (zc0_0 m g)) hm hh h0 (pc0_0 m g _ _) (rc0_0 m g) hg
  · exact joinA (m' := { m with pc := w16 (m.pc + 1) }) hm hh h0 (pc0_1 m g _ _) (rc0_1 m g) hg
@[simp] def zc1_0 (m : Mc) (g : Nat → Int) : Mc := { m with pc := w16 (m.pc + 1), r0 := w8 ((or16 (w16 (g (ix (w16 (w16 (m.sp + 2) - 2))))) (w16 (w16 (g (ix (w16 (w16 (w16 (m.sp + 2) - 2) + 1)))) * 256))).fdiv 256), r1 := w8 (or16 (w16 (g (ix (w16 (w16 (m.sp + 2) - 2))))) (w16 (w16 (g (ix (w16 (w16 (w16 (m.sp + 2) - 2) + 1)))) * 256))), sp := w16 (m.sp + 2) }
theorem pc1_0 : endsAt [0, 1] (Ly.run ctx3 3000 [(45, true), (0, true), (0, true), (0, true)] (sP m g 193 b1 b2)) = some (T [rg (w16 (w16 (m.sp + 2) - 2)), bl (ix (w16 (w16 (m.sp + 2) - 2))), rg (w16 (w16 (w16 (m.sp + 2) - 2) + 1)), bl (ix (w16 (w16 (w16 (m.sp + 2) - 2) + 1)))], .int .i64 0, 5, hPm (zc1_0 m g) (memL g)) := by kernel_rfl
theorem rc1_0 : endsAt [0, 1, 2] (Ly.run ctx3 3000 [(4, true), (34, true), (0, true), (0, true), (0, true), (0, true), (0, true), (0, true)] (sR m g 193)) = some (T [inw m.pc && true, inw m.sp && true, rg (w16 (m.sp + 1)), bl (ix (w16 (m.sp + 1))), rg (m.sp), bl (ix m.sp), inb (g (ix (w16 (m.sp + 1)))) && inb (g (ix m.sp)), inw m.sp && true], .int .i64 0, 3, hRm { m with pc := w16 (m.pc + 1), r0 := w8 ((256 * g (ix (w16 (m.sp + 1))) + g (ix m.sp)).fdiv 256), r1 := w8 (and16 (256 * g (ix (w16 (m.sp + 1))) + g (ix m.sp)) 255), sp := w16 (m.sp + 2) } (memL g)) := by kernel_rfl
theorem oc1 (hm : m.Ok) (hg : ∀ e, B8 (g e)) (hh : m.halt = false) (h0 : g (ix m.pc) = 193) : Both m g := by
  obtain ⟨r0, r1, r2, r3, r4, r5, r7, sp, pc⟩ := id hm
  exact joinA (m' := (zc1_0 m g)) hm hh h0 (pc1_0 m g _ _) (rc1_0 m g) hg
theorem pc2_0 : endsAt [0, 1] (Ly.run ctx3 3000 [(51, true)] (sP m g 194 b1 b2)) = some (T [m.fz == false], .int .i64 0, 6, hPm { m with pc := or16 (w16 (or16 0 (w16 b2) * 256)) (w16 b1) } (memL g)) := by kernel_rfl
theorem pc2_1 : endsAt [0, 1] (Ly.run ctx3 3000 [(51, false)] (sP m g 194 b1 b2)) = some ([(m.fz == false, false)], .int .i64 0, 6, hPm { m with pc := w16 (m.pc + 3) } (memL g)) := by kernel_rfl
theorem rc2_0 : endsAt [0, 1, 2] (Ly.run ctx3 3000 [(3, true), (0, true), (0, true), (1, true), (0, true), (0, true), (0, true), (56, true)] (sR m g 194)) = some (T [inw m.pc && true, rg (w16 (m.pc + 1)), bl (ix (w16 (m.pc + 1))), inw m.pc && true, rg (w16 (m.pc + 2)), bl (ix (w16 (m.pc + 2))), inw m.pc && true, !m.fz], .int .i64 0, 4, hRm { m with pc := w16 (w16 (g (ix (w16 (m.pc + 1)))) + w16 (w16 (g (ix (w16 (m.pc + 2)))) * 256)) } (memL g)) := by kernel_rfl
theorem rc2_1 : endsAt [0, 1, 2] (Ly.run ctx3 3000 [(3, true), (0, true), (0, true), (1, true), (0, true), (0, true), (0, true), (56, false)] (sR m g 194)) = some ([(inw m.pc && true, true), (rg (w16 (m.pc + 1)), true), (bl (ix (w16 (m.pc + 1))), true), (inw m.pc && true, true), (rg (w16 (m.pc + 2)), true), (bl (ix (w16 (m.pc + 2))), true), (inw m.pc && true, true), (!m.fz, false)], .int .i64 0, 4, hRm { m with pc := w16 (m.pc + 3) } (memL g)) := by kernel_rfl
theorem oc2 (hm : m.Ok) (hg : ∀ e, B8 (g e)) (hh : m.halt = false) (h0 : g (ix m.pc) = 194) : Both m g := by
  obtain ⟨r0, r1, r2, r3, r4, r5, r7, sp, pc⟩ := id hm
  cases hf : m.fz
  · exact joinA (m' := { m with pc := or16 (w16 (or16 0 (w16 (g (at1 m.pc 2))) * 256)) (w16 (g (at1 m.pc 1))) }) hm hh h0 (pc2_0 m g _ _) (rc2_0 m g) hg
  · exact joinA (m' := { m with pc := w16 (m.pc + 3) }) hm hh h0 (pc2_1 m g _ _) (rc2_1 m g) hg
theorem pc3_0 : endsAt [0, 1] (Ly.run ctx3 3000 [] (sP m g 195 b1 b2)) = some (T [], .int .i64 0, 5, hPm { m with pc := or16 (w16 (or16 0 (w16 b2) * 256)) (w16 b1) } (memL g)) := by kernel_rfl
theorem rc3_0 : endsAt [0, 1, 2] (Ly.run ctx3 3000 [(3, true), (0, true), (0, true), (1, true), (0, true), (0, true), (0, true)] (sR m g 195)) = some (T [inw m.pc && true, rg (w16 (m.pc + 1)), bl (ix (w16 (m.pc + 1))), inw m.pc && true, rg (w16 (m.pc + 2)), bl (ix (w16 (m.pc + 2))), inw m.pc && true], .int .i64 0, 3, hRm { m with pc := w16 (w16 (g (ix (w16 (m.pc + 1)))) + w16 (w16 (g (ix (w16 (m.pc + 2)))) * 256)) } (memL g)) := by kernel_rfl
theorem oc3 (hm : m.Ok) (hg : ∀ e, B8 (g e)) (hh : m.halt = false) (h0 : g (ix m.pc) = 195) : Both m g := by
  obtain ⟨r0, r1, r2, r3, r4, r5, r7, sp, pc⟩ := id hm
  exact joinA (m' := { m with pc := or16 (w16 (or16 0 (w16 (g (at1 m.pc 2))) * 256)) (w16 (g (at1 m.pc 1))) }) hm hh h0 (pc3_0 m g _ _) (rc3_0 m g) hg
theorem pc4_0 : endsAt [0, 1] (Ly.run ctx3 3000 [(53, true), (3, true), (0, true), (2, true), (0, true)] (sP m g 196 b1 b2)) = some (T [m.fz == false, rg (w16 (m.sp - 2)), bl (ix (w16 (m.sp - 2))), rg (w16 (w16 (m.sp - 2) + 1)), bl (ix (w16 (w16 (m.sp - 2) + 1)))], .int .i64 0, 7, hPm { m with pc := or16 (w16 (or16 0 (w16 b2) * 256)) (w16 b1), sp := w16 (m.sp - 2) } (M2 g (ix (w16 (m.sp - 2))) (w8 (w16 (m.pc + 3))) (ix (w16 (w16 (m.sp - 2) + 1))) (w8 ((w16 (m.pc + 3)).fdiv 256)))) := by kernel_rfl
theorem pc4_1 : endsAt [0, 1] (Ly.run ctx3 3000 [(53, false)] (sP m g 196 b1 b2)) = some ([(m.fz == false, false)], .int .i64 0, 6, hPm { m with pc := w16 (m.pc + 3) } (memL g)) := by kernel_rfl
theorem rc4_0 : endsAt [0, 1, 2] (Ly.run ctx3 3000 [(3, true), (0, true), (0, true), (1, true), (0, true), (0, true), (0, true), (66, true), (0, true), (0, true), (1, true), (0, true), (0, true), (0, true)] (sR m g 196)) = some (T [inw m.pc && true, rg (w16 (m.pc + 1)), bl (ix (w16 (m.pc + 1))), inw m.pc && true, rg (w16 (m.pc + 2)), bl (ix (w16 (m.pc + 2))), inw m.pc && true, !m.fz, inw m.sp && true, inw (w16 (m.sp + -2)) && true, rg (w16 (w16 (m.sp + -2) + 1)), bl (ix (w16 (w16 (m.sp + -2) + 1))), rg (w16 (m.sp + -2)), bl (ix (w16 (m.sp + -2)))], .int .i64 0, 4, hRm { m with pc := w16 (w16 (g (ix (w16 (m.pc + 1)))) + w16 (w16 (g (ix (w16 (m.pc + 2)))) * 256)), sp := w16 (m.sp + -2) } (M2 g (ix (w16 (w16 (m.sp + -2) + 1))) (w8 ((w16 (m.pc + 3)).fdiv 256)) (ix (w16 (m.sp + -2))) (w8 (and16 (w16 (m.pc + 3)) 255)))) := by kernel_rfl
theorem rc4_1 : endsAt [0, 1, 2] (Ly.run ctx3 3000 [(3, true), (0, true), (0, true), (1, true), (0, true), (0, true), (0, true), (66, false)] (sR m g 196)) = some ([(inw m.pc && true, true), (rg (w16 (m.pc + 1)), true), (bl (ix (w16 (m.pc + 1))), true), (inw m.pc && true, true), (rg (w16 (m.pc + 2)), true), (bl (ix (w16 (m.pc + 2))), true), (inw m.pc && true, true), (!m.fz, false)], .int .i64 0, 4, hRm { m with pc := w16 (m.pc + 3) } (memL g)) := by kernel_rfl
theorem oc4 (hm : m.Ok) (hg : ∀ e, B8 (g e)) (hh : m.halt = false) (h0 : g (ix m.pc) = 196) : Both m g := by
  obtain ⟨r0, r1, r2, r3, r4, r5, r7, sp, pc⟩ := id hm
  cases hf : m.fz
  · exact join (m' := { m with pc := or16 (w16 (or16 0 (w16 (g (at1 m.pc 2))) * 256)) (w16 (g (at1 m.pc 1))), sp := w16 (m.sp - 2) }) (g' := (upd (upd g (ix (w16 (m.sp - 2))) (w8 (w16 (m.pc + 3)))) (ix (w16 (w16 (m.sp - 2) + 1))) (w8 ((w16 (m.pc + 3)).fdiv 256)))) hm hh h0 (pc4_0 m g _ _) (rc4_0 m g) (by simp [*]) (by simp [*]) (by decide) (by decide) (eP (m2s rfl rfl rfl rfl)) (eR (by simp [*]) (m2c (by simp [*]) (by simp [*]) (by simp [*]) (by simp [*]) (by simp [*]))) (by constructor <;> simp [*]) (upd_b8 (upd_b8 hg (by simp [*])) (by simp [*]))
  · exact joinA (m' := { m with pc := w16 (m.pc + 3) }) hm hh h0 (pc4_1 m g _ _) (rc4_1 m g) hg
@[simp] def zc5_0 (m : Mc) : Mc := { m with pc := w16 (m.pc + 1), sp := w16 (m.sp - 2) }
theorem pc5_0 : endsAt [0, 1] (Ly.run ctx3 3000 [(59, true), (0, true), (2, true), (0, true)] (sP m g 197 b1 b2)) = some (T [rg (w16 (m.sp - 2)), bl (ix (w16 (m.sp - 2))), rg (w16 (w16 (m.sp - 2) + 1)), bl (ix (w16 (w16 (m.sp - 2) + 1)))], .int .i64 0, 6, hPm (zc5_0 m) (M2 g (ix (w16 (m.sp - 2))) (w8 (or16 (w16 (w16 m.r0 * 256)) (w16 m.r1))) (ix (w16 (w16 (m.sp - 2) + 1))) (w8 ((or16 (w16 (w16 m.r0 * 256)) (w16 m.r1)).fdiv 256)))) := by kernel_rfl
theorem rc5_0 : endsAt [0, 1, 2] (Ly.run ctx3 3000 [(4, true), (35, true), (0, true), (0, true), (1, true), (0, true), (0, true), (0, true)] (sR m g 197)) = some (T [inw m.pc && true, inb m.r0 && inb m.r1, inw m.sp && true, inw (w16 (m.sp + -2)) && true, rg (w16 (w16 (m.sp + -2) + 1)), bl (ix (w16 (w16 (m.sp + -2) + 1))), rg (w16 (m.sp + -2)), bl (ix (w16 (m.sp + -2)))], .int .i64 0, 3, hRm { m with pc := w16 (m.pc + 1), sp := w16 (m.sp + -2) } (M2 g (ix (w16 (w16 (m.sp + -2) + 1))) (w8 ((256 * m.r0 + m.r1).fdiv 256)) (ix (w16 (m.sp + -2))) (w8 (and16 (256 * m.r0 + m.r1) 255)))) := by kernel_rfl
theorem oc5 (hm : m.Ok) (hg : ∀ e, B8 (g e)) (hh : m.halt = false) (h0 : g (ix m.pc) = 197) : Both m g := by
  obtain ⟨r0, r1, r2, r3, r4, r5, r7, sp, pc⟩ := id hm
  exact join (m' := (zc5_0 m)) (g' := (upd (upd g (ix (w16 (m.sp - 2))) (w8 (or16 (w16 (w16 m.r0 * 256)) (w16 m.r1)))) (ix (w16 (w16 (m.sp - 2) + 1))) (w8 ((or16 (w16 (w16 m.r0 * 256)) (w16 m.r1)).fdiv 256)))) hm hh h0 (pc5_0 m g _ _) (rc5_0 m g) (by simp [*]) (by simp [*]) (by decide) (by decide) (eP (m2s rfl rfl rfl rfl)) (eR (by simp [*]) (m2c (by simp [*]) (by simp [*]) (by simp [*]) (by simp [*]) (by simp [*]))) (by constructor <;> simp [*]) (upd_b8 (upd_b8 hg (by simp [*])) (by simp [*]))
@[simp] def zc6_0 (m : Mc) (g : Nat → Int) : Mc := { m with fc := decide (255 < m.r7 + w8 (or16 0 (w16 (g (at1 m.pc 1)))) + 0), fp := par ((m.r7 + w8 (or16 0 (w16 (g (at1 m.pc 1)))) + 0) % 256), fs := decide (128 ≤ (m.r7 + w8 (or16 0 (w16 (g (at1 m.pc 1)))) + 0) % 256), fx := decide (15 < m.r7 % 16 + w8 (or16 0 (w16 (g (at1 m.pc 1)))) % 16 + 0), fz := (m.r7 + w8 (or16 0 (w16 (g (at1 m.pc 1)))) + 0) % 256 == 0, pc := w16 (m.pc + 2), r7 := (m.r7 + w8 (or16 0 (w16 (g (at1 m.pc 1)))) + 0) % 256 }
@[simp] def zc6_1 (m : Mc) (b1 : Int) : Mc := { m with fc := decide (255 < m.r7 + w8 (or16 0 (w16 b1)) + 0), fp := par ((m.r7 + w8 (or16 0 (w16 b1)) + 0) % 256), fs := decide (128 ≤ (m.r7 + w8 (or16 0 (w16 b1)) + 0) % 256), fx := decide (15 < m.r7 % 16 + w8 (or16 0 (w16 b1)) % 16 + 0), fz := (m.r7 + w8 (or16 0 (w16 b1)) + 0) % 256 == 0, pc := w16 (m.pc + 2), r7 := (m.r7 + w8 (or16 0 (w16 b1)) + 0) % 256 }
theorem pc6_0 : endsAt [0, 1] (Ly.run ctx3 3000 [(21, true), (5, true)] (sP m g 198 b1 b2)) = some (T [m.fc == true, inb m.r7 && inb (w8 (or16 0 (w16 b1)))], .int .i64 0, 5, hPm (zc6_1 m b1) (memL g)) := by kernel_rfl
theorem pc6_1 : endsAt [0, 1] (Ly.run ctx3 3000 [(21, false), (5, true)] (sP m g 198 b1 b2)) = some ([(m.fc == true, false), (inb m.r7 && inb (w8 (or16 0 (w16 b1))), true)], .int .i64 0, 5, hPm (zc6_1 m b1) (memL g)) := by kernel_rfl
theorem rc6_0 : endsAt [0, 1, 2] (Ly.run ctx3 3000 [(3, true), (0, true), (0, true), (1, true), (32, true)] (sR m g 198)) = some (T [inw m.pc && true, rg (w16 (m.pc + 1)), bl (ix (w16 (m.pc + 1))), inw m.pc && true, inb m.r7 && inb (w8 (w16 (g (ix (w16 (m.pc + 1))))))], .int .i64 0, 4, hRm { m with fc := decide (255 < m.r7 + w8 (w16 (g (ix (w16 (m.pc + 1))))) + 0), fp := par ((m.r7 + w8 (w16 (g (ix (w16 (m.pc + 1))))) + 0) % 256), fs := decide (128 ≤ (m.r7 + w8 (w16 (g (ix (w16 (m.pc + 1))))) + 0) % 256), fx := decide (15 < m.r7 % 16 + w8 (w16 (g (ix (w16 (m.pc + 1))))) % 16 + 0), fz := (m.r7 + w8 (w16 (g (ix (w16 (m.pc + 1))))) + 0) % 256 == 0, pc := w16 (m.pc + 2), r7 := (m.r7 + w8 (w16 (g (ix (w16 (m.pc + 1))))) + 0) % 256 } (memL g)) := by kernel_rfl
theorem oc6 (hm : m.Ok) (hg : ∀ e, B8 (g e)) (hh : m.halt = false) (h0 : g (ix m.pc) = 198) : Both m g := by
  obtain ⟨r0, r1, r2, r3, r4, r5, r7, sp, pc⟩ := id hm
  cases hf : m.fc
  · exact joinA (m' := (zc6_0 m g)) hm hh h0 (pc6_1 m g _ _) (rc6_0 m g) hg
  · exact joinA (m' := (zc6_0 m g)) hm hh h0 (pc6_0 m g _ _) (rc6_0 m g) hg
theorem pc7_0 : endsAt [0, 1] (Ly.run ctx3 3000 [(44, true), (0, true), (2, true), (0, true)] (sP m g 199 b1 b2)) = some (T [rg (w16 (m.sp - 2)), bl (ix (w16 (m.sp - 2))), rg (w16 (w16 (m.sp - 2) + 1)), bl (ix (w16 (w16 (m.sp - 2) + 1)))], .int .i64 0, 6, hPm { m with pc := 0, sp := w16 (m.sp - 2) } (M2 g (ix (w16 (m.sp - 2))) (w8 (w16 (m.pc + 1))) (ix (w16 (w16 (m.sp - 2) + 1))) (w8 ((w16 (m.pc + 1)).fdiv 256)))) := by kernel_rfl
theorem rc7_0 : endsAt [0, 1, 2] (Ly.run ctx3 3000 [(4, true), (24, true), (0, true), (1, true), (0, true), (0, true), (0, true)] (sR m g 199)) = some (T [inw m.pc && true, inw m.sp && true, inw (w16 (m.sp + -2)) && true, rg (w16 (w16 (m.sp + -2) + 1)), bl (ix (w16 (w16 (m.sp + -2) + 1))), rg (w16 (m.sp + -2)), bl (ix (w16 (m.sp + -2)))], .int .i64 0, 3, hRm { m with pc := 0, sp := w16 (m.sp + -2) } (M2 g (ix (w16 (w16 (m.sp + -2) + 1))) (w8 ((w16 (m.pc + 1)).fdiv 256)) (ix (w16 (m.sp + -2))) (w8 (and16 (w16 (m.pc + 1)) 255)))) := by kernel_rfl
theorem oc7 (hm : m.Ok) (hg : ∀ e, B8 (g e)) (hh : m.halt = false) (h0 : g (ix m.pc) = 199) : Both m g := by
  obtain ⟨r0, r1, r2, r3, r4, r5, r7, sp, pc⟩ := id hm
  exact join (m' := { m with pc := 0, sp := w16 (m.sp - 2) }) (g' := (upd (upd g (ix (w16 (m.sp - 2))) (w8 (w16 (m.pc + 1)))) (ix (w16 (w16 (m.sp - 2) + 1))) (w8 ((w16 (m.pc + 1)).fdiv 256)))) hm hh h0 (pc7_0 m g _ _) (rc7_0 m g) (by simp [*]) (by simp [*]) (by decide) (by decide) (eP (m2s rfl rfl rfl rfl)) (eR (by simp [*]) (m2c (by simp [*]) (by simp [*]) (by simp [*]) (by simp [*]) (by simp [*]))) (by constructor <;> simp [*]) (upd_b8 (upd_b8 hg (by simp [*])) (by simp [*]))
@[simp] def zc8_0 (m : Mc) (g : Nat → Int) : Mc := { m with pc := or16 (w16 (g (ix (w16 (w16 (m.sp + 2) - 2))))) (w16 (w16 (g (ix (w16 (w16 (w16 (m.sp + 2) - 2) + 1)))) * 256)), sp := w16 (m.sp + 2) }
theorem pc8_0 : endsAt [0, 1] (Ly.run ctx3 3000 [(43, true), (0, true), (0, true), (0, true), (0, true)] (sP m g 200 b1 b2)) = some (T [m.fz == true, rg (w16 (w16 (m.sp + 2) - 2)), bl (ix (w16 (w16 (m.sp + 2) - 2))), rg (w16 (w16 (w16 (m.sp + 2) - 2) + 1)), bl (ix (w16 (w16 (w16 (m.sp + 2) - 2) + 1)))], .int .i64 0, 6, hPm (zc8_0 m g) (memL g)) := by kernel_rfl
theorem pc8_1 : endsAt [0, 1] (Ly.run ctx3 3000 [(43, false)] (sP m g 200 b1 b2)) = some ([(m.fz == true, false)], .int .i64 0, 6, hPm { m with pc := w16 (m.pc + 1) } (memL g)) := by kernel_rfl
theorem rc8_0 : endsAt [0, 1, 2] (Ly.run ctx3 3000 [(4, true), (47, true), (0, true), (0, true), (0, true), (0, true), (0, true), (0, true), (0, true)] (sR m g 200)) = some (T [inw m.pc && true, m.fz, inw m.sp && true, rg (w16 (m.sp + 1)), bl (ix (w16 (m.sp + 1))), rg (m.sp), bl (ix m.sp), inb (g (ix (w16 (m.sp + 1)))) && inb (g (ix m.sp)), inw m.sp && true], .int .i64 0, 4, hRm { m with pc := 256 * g (ix (w16 (m.sp + 1))) + g (ix m.sp), sp := w16 (m.sp + 2) } (memL g)) := by kernel_rfl
theorem rc8_1 : endsAt [0, 1, 2] (Ly.run ctx3 3000 [(4, true), (47, false)] (sR m g 200)) = some ([(inw m.pc && true, true), (m.fz, false)], .int .i64 0, 4, hRm { m with pc := w16 (m.pc + 1) } (memL g)) := by kernel_rfl
theorem oc8 (hm : m.Ok) (hg : ∀ e, B8 (g e)) (hh : m.halt = false) (h0 : g (ix m.pc) = 200) : Both m g := by
  obtain ⟨r0, r1, r2, r3, r4, r5, r7, sp, pc⟩ := id hm
  cases hf : m.fz
  · exact joinA (m' := { m with pc := w16 (m.pc + 1) }) hm hh h0 (pc8_1 m g _ _) (rc8_1 m g) hg
  · exact joinA (m' := (zc8_0 m g)) hm hh h0 (pc8_0 m g _ _) (rc8_0 m g) hg
@[simp] def zc9_0 (m : Mc) (g : Nat → Int) : Mc := { m with pc := or16 (w16 (g (ix (w16 (w16 (m.sp + 2) - 2))))) (w16 (w16 (g (ix (w16 (w16 (w16 (m.sp + 2) - 2) + 1)))) * 256)), sp := w16 (m.sp + 2) }
theorem pc9_0 : endsAt [0, 1] (Ly.run ctx3 3000 [(37, true), (0, true), (0, true), (0, true)] (sP m g 201 b1 b2)) = some (T [rg (w16 (w16 (m.sp + 2) - 2)), bl (ix (w16 (w16 (m.sp + 2) - 2))), rg (w16 (w16 (w16 (m.sp + 2) - 2) + 1)), bl (ix (w16 (w16 (w16 (m.sp + 2) - 2) + 1)))], .int .i64 0, 5, hPm (zc9_0 m g) (memL g)) := by kernel_rfl
theorem rc9_0 : endsAt [0, 1, 2] (Ly.run ctx3 3000 [(4, true), (41, true), (0, true), (0, true), (0, true), (0, true), (0, true), (0, true)] (sR m g 201)) = some (T [inw m.pc && true, inw m.sp && true, rg (w16 (m.sp + 1)), bl (ix (w16 (m.sp + 1))), rg (m.sp), bl (ix m.sp), inb (g (ix (w16 (m.sp + 1)))) && inb (g (ix m.sp)), inw m.sp && true], .int .i64 0, 3, hRm { m with pc := 256 * g (ix (w16 (m.sp + 1))) + g (ix m.sp), sp := w16 (m.sp + 2) } (memL g)) := by kernel_rfl
theorem oc9 (hm : m.Ok) (hg : ∀ e, B8 (g e)) (hh : m.halt = false) (h0 : g (ix m.pc) = 201) : Both m g := by
  obtain ⟨r0, r1, r2, r3, r4, r5, r7, sp, pc⟩ := id hm
  exact joinA (m' := (zc9_0 m g)) hm hh h0 (pc9_0 m g _ _) (rc9_0 m g) hg
theorem pca_0 : endsAt [0, 1] (Ly.run ctx3 3000 [(51, true)] (sP m g 202 b1 b2)) = some (T [m.fz == true], .int .i64 0, 6, hPm { m with pc := or16 (w16 (or16 0 (w16 b2) * 256)) (w16 b1) } (memL g)) := by kernel_rfl
theorem pca_1 : endsAt [0, 1] (Ly.run ctx3 3000 [(51, false)] (sP m g 202 b1 b2)) = some ([(m.fz == true, false)], .int .i64 0, 6, hPm { m with pc := w16 (m.pc + 3) } (memL g)) := by kernel_rfl
theorem rca_0 : endsAt [0, 1, 2] (Ly.run ctx3 3000 [(3, true), (0, true), (0, true), (1, true), (0, true), (0, true), (0, true), (57, true)] (sR m g 202)) = some (T [inw m.pc && true, rg (w16 (m.pc + 1)), bl (ix (w16 (m.pc + 1))), inw m.pc && true, rg (w16 (m.pc + 2)), bl (ix (w16 (m.pc + 2))), inw m.pc && true, m.fz], .int .i64 0, 4, hRm { m with pc := w16 (w16 (g (ix (w16 (m.pc + 1)))) + w16 (w16 (g (ix (w16 (m.pc + 2)))) * 256)) } (memL g)) := by kernel_rfl
theorem rca_1 : endsAt [0, 1, 2] (Ly.run ctx3 3000 [(3, true), (0, true), (0, true), (1, true), (0, true), (0, true), (0, true), (57, false)] (sR m g 202)) = some ([(inw m.pc && true, true), (rg (w16 (m.pc + 1)), true), (bl (ix (w16 (m.pc + 1))), true), (inw m.pc && true, true), (rg (w16 (m.pc + 2)), true), (bl (ix (w16 (m.pc + 2))), true), (inw m.pc && true, true), (m.fz, false)], .int .i64 0, 4, hRm { m with pc := w16 (m.pc + 3) } (memL g)) := by kernel_rfl
theorem oca (hm : m.Ok) (hg : ∀ e, B8 (g e)) (hh : m.halt = false) (h0 : g (ix m.pc) = 202) : Both m g := by
  obtain ⟨r0, r1, r2, r3, r4, r5, r7, sp, pc⟩ := id hm
  cases hf : m.fz
  · exact joinA (m' := { m with pc := w16 (m.pc + 3) }) hm hh h0 (pca_1 m g _ _) (rca_1 m g) hg
  · exact joinA (m' := { m with pc := or16 (w16 (or16 0 (w16 (g (at1 m.pc 2))) * 256)) (w16 (g (at1 m.pc 1))) }) hm hh h0 (pca_0 m g _ _) (rca_0 m g) hg
theorem pcb_0 : endsAt [0, 1] (Ly.run ctx3 3000 [] (sP m g 203 b1 b2)) = some (T [], .int .i64 8, 5, hPm m (memL g)) := by kernel_rfl
theorem rcb_0 : endsAt [0, 1, 2] (Ly.run ctx3 3000 [] (sR m g 203)) = some (T [], .int .i64 8, 3, hRm m (memL g)) := by kernel_rfl
theorem ocb (hm : m.Ok) (hg : ∀ e, B8 (g e)) (hh : m.halt = false) (h0 : g (ix m.pc) = 203) : Both m g := by
  obtain ⟨r0, r1, r2, r3, r4, r5, r7, sp, pc⟩ := id hm
  exact join (m' := m) (g' := g) hm hh h0 (pcb_0 m g _ _) (rcb_0 m g) (by simp [*]) (by simp [*]) (by decide) (by decide) (eP (.inl rfl)) (eR rfl (.inl rfl)) (by constructor <;> simp [*]) hg
theorem pcc_0 : endsAt [0, 1] (Ly.run ctx3 3000 [(53, true), (3, true), (0, true), (2, true), (0, true)] (sP m g 204 b1 b2)) = some (T [m.fz == true, rg (w16 (m.sp - 2)), bl (ix (w16 (m.sp - 2))), rg (w16 (w16 (m.sp - 2) + 1)), bl (ix (w16 (w16 (m.sp - 2) + 1)))], .int .i64 0, 7, hPm { m with pc := or16 (w16 (or16 0 (w16 b2) * 256)) (w16 b1), sp := w16 (m.sp - 2) } (M2 g (ix (w16 (m.sp - 2))) (w8 (w16 (m.pc + 3))) (ix (w16 (w16 (m.sp - 2) + 1))) (w8 ((w16 (m.pc + 3)).fdiv 256)))) := by kernel_rfl
theorem pcc_1 : endsAt [0, 1] (Ly.run ctx3 3000 [(53, false)] (sP m g 204 b1 b2)) = some ([(m.fz == true, false)], .int .i64 0, 6, hPm { m with pc := w16 (m.pc + 3) } (memL g)) := by kernel_rfl
theorem rcc_0 : endsAt [0, 1, 2] (Ly.run ctx3 3000 [(3, true), (0, true), (0, true), (1, true), (0, true), (0, true), (0, true), (67, true), (0, true), (0, true), (1, true), (0, true), (0, true), (0, true)] (sR m g 204)) = some (T [inw m.pc && true, rg (w16 (m.pc + 1)), bl (ix (w16 (m.pc + 1))), inw m.pc && true, rg (w16 (m.pc + 2)), bl (ix (w16 (m.pc + 2))), inw m.pc && true, m.fz, inw m.sp && true, inw (w16 (m.sp + -2)) && true, rg (w16 (w16 (m.sp + -2) + 1)), bl (ix (w16 (w16 (m.sp + -2) + 1))), rg (w16 (m.sp + -2)), bl (ix (w16 (m.sp + -2)))], .int .i64 0, 4, hRm { m with pc := w16 (w16 (g (ix (w16 (m.pc + 1)))) + w16 (w16 (g (ix (w16 (m.pc + 2)))) * 256)), sp := w16 (m.sp + -2) } (M2 g (ix (w16 (w16 (m.sp + -2) + 1))) (w8 ((w16 (m.pc + 3)).fdiv 256)) (ix (w16 (m.sp + -2))) (w8 (and16 (w16 (m.pc + 3)) 255)))) := by kernel_rfl
theorem rcc_1 : endsAt [0, 1, 2] (Ly.run ctx3 3000 [(3, true), (0, true), (0, true), (1, true), (0, true), (0, true), (0, true), (67, false)] (sR m g 204)) = some ([(inw m.pc && true, true), (rg (w16 (m.pc + 1)), true), (bl (ix (w16 (m.pc + 1))), true), (inw m.pc && true, true), (rg (w16 (m.pc + 2)), true), (bl (ix (w16 (m.pc + 2))), true), (inw m.pc && true, true), (m.fz, false)], .int .i64 0, 4, hRm { m with pc := w16 (m.pc + 3) } (memL g)) := by kernel_rfl
theorem occ (hm : m.Ok) (hg : ∀ e, B8 (g e)) (hh : m.halt = false) (h0 : g (ix m.pc) = 204) : Both m g := by
  obtain ⟨r0, r1, r2, r3, r4, r5, r7, sp, pc⟩ := id hm
  cases hf : m.fz
  · exact joinA (m' := { m with pc := w16 (m.pc + 3) }) hm hh h0 (pcc_1 m g _ _) (rcc_1 m g) hg
  · exact join (m' := { m with pc := or16 (w16 (or16 0 (w16 (g (at1 m.pc 2))) * 256)) (w16 (g (at1 m.pc 1))), sp := w16 (m.sp - 2) }) (g' := (upd (upd g (ix (w16 (m.sp - 2))) (w8 (w16 (m.pc + 3)))) (ix (w16 (w16 (m.sp - 2) + 1))) (w8 ((w16 (m.pc + 3)).fdiv 256)))) hm hh h0 (pcc_0 m g _ _) (rcc_0 m g) (by simp [*]) (by simp [*]) (by decide) (by decide) (eP (m2s rfl rfl rfl rfl)) (eR (by simp [*]) (m2c (by simp [*]) (by simp [*]) (by simp [*]) (by simp [*]) (by simp [*]))) (by constructor <;> simp [*]) (upd_b8 (upd_b8 hg (by simp [*])) (by simp [*]))
theorem pcd_0 : endsAt [0, 1] (Ly.run ctx3 3000 [(50, true), (0, true), (2, true), (0, true)] (sP m g 205 b1 b2)) = some (T [rg (w16 (m.sp - 2)), bl (ix (w16 (m.sp - 2))), rg (w16 (w16 (m.sp - 2) + 1)), bl (ix (w16 (w16 (m.sp - 2) + 1)))], .int .i64 0, 6, hPm { m with pc := or16 (w16 (or16 0 (w16 b2) * 256)) (w16 b1), sp := w16 (m.sp - 2) } (M2 g (ix (w16 (m.sp - 2))) (w8 (w16 (m.pc + 3))) (ix (w16 (w16 (m.sp - 2) + 1))) (w8 ((w16 (m.pc + 3)).fdiv 256)))) := by kernel_rfl
theorem rcd_0 : endsAt [0, 1, 2] (Ly.run ctx3 3000 [(3, true), (0, true), (0, true), (1, true), (0, true), (0, true), (0, true), (61, true), (0, true), (1, true), (0, true), (0, true), (0, true)] (sR m g 205)) = some (T [inw m.pc && true, rg (w16 (m.pc + 1)), bl (ix (w16 (m.pc + 1))), inw m.pc && true, rg (w16 (m.pc + 2)), bl (ix (w16 (m.pc + 2))), inw m.pc && true, inw m.sp && true, inw (w16 (m.sp + -2)) && true, rg (w16 (w16 (m.sp + -2) + 1)), bl (ix (w16 (w16 (m.sp + -2) + 1))), rg (w16 (m.sp + -2)), bl (ix (w16 (m.sp + -2)))], .int .i64 0, 3, hRm { m with pc := w16 (w16 (g (ix (w16 (m.pc + 1)))) + w16 (w16 (g (ix (w16 (m.pc + 2)))) * 256)), sp := w16 (m.sp + -2) } (M2 g (ix (w16 (w16 (m.sp + -2) + 1))) (w8 ((w16 (m.pc + 3)).fdiv 256)) (ix (w16 (m.sp + -2))) (w8 (and16 (w16 (m.pc + 3)) 255)))) := by kernel_rfl
theorem ocd (hm : m.Ok) (hg : ∀ e, B8 (g e)) (hh : m.halt = false) (h0 : g (ix m.pc) = 205) : Both m g := by
  obtain ⟨r0, r1, r2, r3, r4, r5, r7, sp, pc⟩ := id hm
  exact join (m' := { m with pc := or16 (w16 (or16 0 (w16 (g (at1 m.pc 2))) * 256)) (w16 (g (at1 m.pc 1))), sp := w16 (m.sp - 2) }) (g' := (upd (upd g (ix (w16 (m.sp - 2))) (w8 (w16 (m.pc + 3)))) (ix (w16 (w16 (m.sp - 2) + 1))) (w8 ((w16 (m.pc + 3)).fdiv 256)))) hm hh h0 (pcd_0 m g _ _) (rcd_0 m g) (by simp [*]) (by simp [*]) (by decide) (by decide) (eP (m2s rfl rfl rfl rfl)) (eR (by simp [*]) (m2c (by simp [*]) (by simp [*]) (by simp [*]) (by simp [*]) (by simp [*]))) (by constructor <;> simp [*]) (upd_b8 (upd_b8 hg (by simp [*])) (by simp [*]))
theorem pce_0 : endsAt [0, 1] (Ly.run ctx3 3000 [(21, true), (5, true)] (sP m g 206 b1 b2)) = some (T [m.fc == true, inb m.r7 && inb (w8 (or16 0 (w16 b1)))], .int .i64 0, 5, hPm { m with fc := decide (255 < m.r7 + w8 (or16 0 (w16 b1)) + 1), fp := par ((m.r7 + w8 (or16 0 (w16 b1)) + 1) % 256), fs := decide (128 ≤ (m.r7 + w8 (or16 0 (w16 b1)) + 1) % 256), fx := decide (15 < m.r7 % 16 + w8 (or16 0 (w16 b1)) % 16 + 1), fz := (m.r7 + w8 (or16 0 (w16 b1)) + 1) % 256 == 0, pc := w16 (m.pc + 2), r7 := (m.r7 + w8 (or16 0 (w16 b1)) + 1) % 256 } (memL g)) := by kernel_rfl
theorem pce_1 : endsAt [0, 1] (Ly.run ctx3 3000 [(21, false), (5, true)] (sP m g 206 b1 b2)) = some ([(m.fc == true, false), (inb m.r7 && inb (w8 (or16 0 (w16 b1))), true)], .int .i64 0, 5, hPm { m with fc := decide (255 < m.r7 + w8 (or16 0 (w16 b1)) + 0), fp := par ((m.r7 + w8 (or16 0 (w16 b1)) + 0) % 256), fs := decide (128 ≤ (m.r7 + w8 (or16 0 (w16 b1)) + 0) % 256), fx := decide (15 < m.r7 % 16 + w8 (or16 0 (w16 b1)) % 16 + 0), fz := (m.r7 + w8 (or16 0 (w16 b1)) + 0) % 256 == 0, pc := w16 (m.pc + 2), r7 := (m.r7 + w8 (or16 0 (w16 b1)) + 0) % 256 } (memL g)) := by kernel_rfl
theorem rce_0 : endsAt [0, 1, 2] (Ly.run ctx3 3000 [(3, true), (0, true), (0, true), (1, true), (32, true)] (sR m g 206)) = some (T [inw m.pc && true, rg (w16 (m.pc + 1)), bl (ix (w16 (m.pc + 1))), inw m.pc && true, inb m.r7 && inb (w8 (w16 (g (ix (w16 (m.pc + 1))))))], .int .i64 0, 4, hRm { m with fc := decide (255 < m.r7 + w8 (w16 (g (ix (w16 (m.pc + 1))))) + cI m.fc), fp := par ((m.r7 + w8 (w16 (g (ix (w16 (m.pc + 1))))) + cI m.fc) % 256), fs := decide (128 ≤ (m.r7 + w8 (w16 (g (ix (w16 (m.pc + 1))))) + cI m.fc) % 256), fx := decide (15 < m.r7 % 16 + w8 (w16 (g (ix (w16 (m.pc + 1))))) % 16 + cI m.fc), fz := (m.r7 + w8 (w16 (g (ix (w16 (m.pc + 1))))) + cI m.fc) % 256 == 0, pc := w16 (m.pc + 2), r7 := (m.r7 + w8 (w16 (g (ix (w16 (m.pc + 1))))) + cI m.fc) % 256 } (memL g)) := by kernel_rfl
theorem oce (hm : m.Ok) (hg : ∀ e, B8 (g e)) (hh : m.halt = false) (h0 : g (ix m.pc) = 206) : Both m g := by
  obtain ⟨r0, r1, r2, r3, r4, r5, r7, sp, pc⟩ := id hm
  cases hf : m.fc
  · exact joinA (m' := { m with fc := decide (255 < m.r7 + w8 (or16 0 (w16 (g (at1 m.pc 1)))) + 0), fp := par ((m.r7 + w8 (or16 0 (w16 (g (at1 m.pc 1)))) + 0) % 256), fs := decide (128 ≤ (m.r7 + w8 (or16 0 (w16 (g (at1 m.pc 1)))) + 0) % 256), fx := decide (15 < m.r7 % 16 + w8 (or16 0 (w16 (g (at1 m.pc 1)))) % 16 + 0), fz := (m.r7 + w8 (or16 0 (w16 (g (at1 m.pc 1)))) + 0) % 256 == 0, pc := w16 (m.pc + 2), r7 := (m.r7 + w8 (or16 0 (w16 (g (at1 m.pc 1)))) + 0) % 256 }) hm hh h0 (pce_1 m g _ _) (rce_0 m g) hg
  · exact joinA (m' := { m with fc := decide (255 < m.r7 + w8 (or16 0 (w16 (g (at1 m.pc 1)))) + 1), fp := par ((m.r7 + w8 (or16 0 (w16 (g (at1 m.pc 1)))) + 1) % 256), fs := decide (128 ≤ (m.r7 + w8 (or16 0 (w16 (g (at1 m.pc 1)))) + 1) % 256), fx := decide (15 < m.r7 % 16 + w8 (or16 0 (w16 (g (at1 m.pc 1)))) % 16 + 1), fz := (m.r7 + w8 (or16 0 (w16 (g (at1 m.pc 1)))) + 1) % 256 == 0, pc := w16 (m.pc + 2), r7 := (m.r7 + w8 (or16 0 (w16 (g (at1 m.pc 1)))) + 1) % 256 }) hm hh h0 (pce_0 m g _ _) (rce_0 m g) hg
theorem pcf_0 : endsAt [0, 1] (Ly.run ctx3 3000 [(44, true), (0, true), (2, true), (0, true)] (sP m g 207 b1 b2)) = some (T [rg (w16 (m.sp - 2)), bl (ix (w16 (m.sp - 2))), rg (w16 (w16 (m.sp - 2) + 1)), bl (ix (w16 (w16 (m.sp - 2) + 1)))], .int .i64 0, 6, hPm { m with pc := 8, sp := w16 (m.sp - 2) } (M2 g (ix (w16 (m.sp - 2))) (w8 (w16 (m.pc + 1))) (ix (w16 (w16 (m.sp - 2) + 1))) (w8 ((w16 (m.pc + 1)).fdiv 256)))) := by kernel_rfl
theorem rcf_0 : endsAt [0, 1, 2] (Ly.run ctx3 3000 [(4, true), (24, true), (0, true), (1, true), (0, true), (0, true), (0, true)] (sR m g 207)) = some (T [inw m.pc && true, inw m.sp && true, inw (w16 (m.sp + -2)) && true, rg (w16 (w16 (m.sp + -2) + 1)), bl (ix (w16 (w16 (m.sp + -2) + 1))), rg (w16 (m.sp + -2)), bl (ix (w16 (m.sp + -2)))], .int .i64 0, 3, hRm { m with pc := 8, sp := w16 (m.sp + -2) } (M2 g (ix (w16 (w16 (m.sp + -2) + 1))) (w8 ((w16 (m.pc + 1)).fdiv 256)) (ix (w16 (m.sp + -2))) (w8 (and16 (w16 (m.pc + 1)) 255)))) := by kernel_rfl
theorem ocf (hm : m.Ok) (hg : ∀ e, B8 (g e)) (hh : m.halt = false) (h0 : g (ix m.pc) = 207) : Both m g := by
  obtain ⟨r0, r1, r2, r3, r4, r5, r7, sp, pc⟩ := id hm
  exact join (m' := { m with pc := 8, sp := w16 (m.sp - 2) }) (g' := (upd (upd g (ix (w16 (m.sp - 2))) (w8 (w16 (m.pc + 1)))) (ix (w16 (w16 (m.sp - 2) + 1))) (w8 ((w16 (m.pc + 1)).fdiv 256)))) hm hh h0 (pcf_0 m g _ _) (rcf_0 m g) (by simp [*]) (by simp [*]) (by decide) (by decide) (eP (m2s rfl rfl rfl rfl)) (eR (by simp [*]) (m2c (by simp [*]) (by simp [*]) (by simp [*]) (by simp [*]) (by simp [*]))) (by constructor <;> simp [*]) (upd_b8 (upd_b8 hg (by simp [*])) (by simp [*]))
theorem blk12 (m : Mc) (g : Nat → Int) (hm : m.Ok) (hg : ∀ e, B8 (g e)) (hh : m.halt = false) (h1 : 192 ≤ g (ix m.pc)) (h2 : g (ix m.pc) < 208) : Both m g := by
  have h : g (ix m.pc) = 192 ∨ g (ix m.pc) = 193 ∨ g (ix m.pc) = 194 ∨ g (ix m.pc) = 195 ∨ g (ix m.pc) = 196 ∨ g (ix m.pc) = 197 ∨ g (ix m.pc) = 198 ∨ g (ix m.pc) = 199 ∨ g (ix m.pc) = 200 ∨ g (ix m.pc) = 201 ∨ g (ix m.pc) = 202 ∨ g (ix m.pc) = 203 ∨ g (ix m.pc) = 204 ∨ g (ix m.pc) = 205 ∨ g (ix m.pc) = 206 ∨ g (ix m.pc) = 207 := by omega
  rcases h with h | h | h | h | h | h | h | h | h | h | h | h | h | h | h | h
  · exact oc0 m g hm hg hh h
  · exact oc1 m g hm hg hh h
  · exact oc2 m g hm hg hh h
  · exact oc3 m g hm hg hh h
  · exact oc4 m g hm hg hh h
  · exact oc5 m g hm hg hh h
  · exact oc6 m g hm hg hh h
  · exact oc7 m g hm hg hh h
  · exact oc8 m g hm hg hh h
  · exact oc9 m g hm hg hh h
  · exact oca m g hm hg hh h
  · exact ocb m g hm hg hh h
  · exact occ m g hm hg hh h
  · exact ocd m g hm hg hh h
  · exact oce m g hm hg hh h
  · exact ocf m g hm hg hh h
end Go.Proofs.Ytpggoincnebfnaa
namespace Go.Proofs.Ytpggoincnebfnaa
open Go Go.Ly Go.RowKit
variable (m : Mc) (g : Nat → Int) (b1 b2 : Int)
@[simp] def zd0_0 (m : Mc) (g : Nat → Int) : Mc := { m with pc := or16 (w16 (g (ix (w16 (w16 (m.sp + 2) - 2))))) (w16 (w16 (g (ix (w16 (w16 (w16 (m.sp + 2) - 2) + 1)))) * 256)), sp := w16 (m.sp + 2) }
theorem pd0_0 : endsAt [0, 1] (Ly.run ctx3 3000 [(43, true), (0, true), (0, true), (0, true), (0, true)] (sP m g 208 b1 b2)) = some (T [m.fc == false, rg (w16 (w16 (m.sp + 2) - 2)), bl (ix (w16 (w16 (m.sp + 2) - 2))), rg (w16 (w16 (w16 (m.sp + 2) - 2) + 1)), bl (ix (w16 (w16 (w16 (m.sp + 2) - 2) + 1)))], .int .i64 0, 6, hPm (zd0_0 m g) (memL g)) := by kernel_rfl
theorem pd0_1 : endsAt [0, 1] (Ly.run ctx3 3000 [(43, false)] (sP m g 208 b1 b2)) = some ([(m.fc == false, false)], .int .i64 0, 6, hPm { m with pc := w16 (m.pc + 1) } (memL g)) := by kernel_rfl
theorem rd0_0 : endsAt [0, 1, 2] (Ly.run ctx3 3000 [(4, true), (48, true), (0, true), (0, true), (0, true), (0, true), (0, true), (0, true), (0, true)] (sR m g 208)) = some (T [inw m.pc && true, !m.fc, inw m.sp && true, rg (w16 (m.sp + 1)), bl (ix (w16 (m.sp + 1))), rg (m.sp), bl (ix m.sp), inb (g (ix (w16 (m.sp + 1)))) && inb (g (ix m.sp)), inw m.sp && true], .int .i64 0, 4, hRm { m with pc := 256 * g (ix (w16 (m.sp + 1))) + g (ix m.sp), sp := w16 (m.sp + 2) } (memL g)) := by kernel_rfl
theorem rd0_1 : endsAt [0, 1, 2] (Ly.run ctx3 3000 [(4, true), (48, false)] (sR m g 208)) = some ([(inw m.pc && true, true), (!m.fc, false)], .int .i64 0, 4, hRm { m with pc := w16 (m.pc + 1) } (memL g)) := by kernel_rfl
theorem od0 (hm : m.Ok) (hg : ∀ e, B8 (g e)) (hh : m.halt = false) (h0 : g (ix m.pc) = 208) : Both m g := by
  obtain ⟨r0, r1, r2, r3, r4, r5, r7, sp, pc⟩ := id hm
  cases hf : m.fc
  · exact joinA (m' := (zd0_0 m g)) hm hh h0 (pd0_0 m g _ _) (rd0_0 m g) hg
  · exact joinA (m' := { m with pc := w16 (m.pc + 1) }) hm hh h0 (pd0_1 m g _ _) (rd0_1 m g) hg
@[simp] def zd1_0 (m : Mc) (g : Nat → Int) : Mc := { m with pc := w16 (m.pc + 1), r2 := w8 ((or16 (w16 (g (ix (w16 (w16 (m.sp + 2) - 2))))) (w16 (w16 (g (ix (w16 (w16 (w16 (m.sp + 2) - 2) + 1)))) * 256))).fdiv 256), r3 := w8 (or16 (w16 (g (ix (w16 (w16 (m.sp + 2) - 2))))) (w16 (w16 (g (ix (w16 (w16 (w16 (m.sp + 2) - 2) + 1)))) * 256))), sp := w16 (m.sp + 2) }
theorem pd1_0 : endsAt [0, 1] (Ly.run ctx3 3000 [(45, true), (0, true), (0, true), (0, true)] (sP m g 209 b1 b2)) = some (T [rg (w16 (w16 (m.sp + 2) - 2)), bl (ix (w16 (w16 (m.sp + 2) - 2))), rg (w16 (w16 (w16 (m.sp + 2) - 2) + 1)), bl (ix (w16 (w16 (w16 (m.sp + 2) - 2) + 1)))], .int .i64 0, 5, hPm (zd1_0 m g) (memL g)) := by kernel_rfl
theorem rd1_0 : endsAt [0, 1, 2] (Ly.run ctx3 3000 [(4, true), (34, true), (0, true), (0, true), (0, true), (0, true), (0, true), (0, true)] (sR m g 209)) = some (T [inw m.pc && true, inw m.sp && true, rg (w16 (m.sp + 1)), bl (ix (w16 (m.sp + 1))), rg (m.sp), bl (ix m.sp), inb (g (ix (w16 (m.sp + 1)))) && inb (g (ix m.sp)), inw m.sp && true], .int .i64 0, 3, hRm { m with pc := w16 (m.pc + 1), r2 := w8 ((256 * g (ix (w16 (m.sp + 1))) + g (ix m.sp)).fdiv 256), r3 := w8 (and16 (256 * g (ix (w16 (m.sp + 1))) + g (ix m.sp)) 255), sp := w16 (m.sp + 2) } (memL g)) := by kernel_rfl
theorem od1 (hm : m.Ok) (hg : ∀ e, B8 (g e)) (hh : m.halt = false) (h0 : g (ix m.pc) = 209) : Both m g := by
  obtain ⟨r0, r1, r2, r3, r4, r5, r7, sp, pc⟩ := id hm
  exact joinA (m' := (zd1_0 m g)) hm hh h0 (pd1_0 m g _ _) (rd1_0 m g) hg
theorem pd2_0 : endsAt [0, 1] (Ly.run ctx3 3000 [(51, true)] (sP m g 210 b1 b2)) = some (T [m.fc == false], .int .i64 0, 6, hPm { m with pc := or16 (w16 (or16 0 (w16 b2) * 256)) (w16 b1) } (memL g)) := by kernel_rfl
theorem pd2_1 : endsAt [0, 1] (Ly.run ctx3 3000 [(51, false)] (sP m g 210 b1 b2)) = some ([(m.fc == false, false)], .int .i64 0, 6, hPm { m with pc := w16 (m.pc + 3) } (memL g)) := by kernel_rfl
theorem rd2_0 : endsAt [0, 1, 2] (Ly.run ctx3 3000 [(3, true), (0, true), (0, true), (1, true), (0, true), (0, true), (0, true), (58, true)] (sR m g 210)) = some (T [inw m.pc && true, rg (w16 (m.pc + 1)), bl (ix (w16 (m.pc + 1))), inw m.pc && true, rg (w16 (m.pc + 2)), bl (ix (w16 (m.pc + 2))), inw m.pc && true, !m.fc], .int .i64 0, 4, hRm { m with pc := w16 (w16 (g (ix (w16 (m.pc + 1)))) + w16 (w16 (g (ix (w16 (m.pc + 2)))) * 256)) } (memL g)) := by kernel_rfl
theorem rd2_1 : endsAt [0, 1, 2] (Ly.run ctx3 3000 [(3, true), (0, true), (0, true), (1, true), (0, true), (0, true), (0, true), (58, false)] (sR m g 210)) = some ([(inw m.pc && true, true), (rg (w16 (m.pc + 1)), true), (bl (ix (w16 (m.pc + 1))), true), (inw m.pc && true, true), (rg (w16 (m.pc + 2)), true), (bl (ix (w16 (m.pc + 2))), true), (inw m.pc && true, true), (!m.fc, false)], .int .i64 0, 4, hRm { m with pc := w16 (m.pc + 3) } (memL g)) := by kernel_rfl
theorem od2 (hm : m.Ok) (hg : ∀ e, B8 (g e)) (hh : m.halt = false) (h0 : g (ix m.pc) = 210) : Both m g := by
  obtain ⟨r0, r1, r2, r3, r4, r5, r7, sp, pc⟩ := id hm
  cases hf : m.fc
  · exact joinA (m' := { m with pc := or16 (w16 (or16 0 (w16 (g (at1 m.pc 2))) * 256)) (w16 (g (at1 m.pc 1))) }) hm hh h0 (pd2_0 m g _ _) (rd2_0 m g) hg
  · exact joinA (m' := { m with pc := w16 (m.pc + 3) }) hm hh h0 (pd2_1 m g _ _) (rd2_1 m g) hg
theorem pd4_0 : endsAt [0, 1] (Ly.run ctx3 3000 [(53, true), (3, true), (0, true), (2, true), (0, true)] (sP m g 212 b1 b2)) = some (T [m.fc == false, rg (w16 (m.sp - 2)), bl (ix (w16 (m.sp - 2))), rg (w16 (w16 (m.sp - 2) + 1)), bl (ix (w16 (w16 (m.sp - 2) + 1)))], .int .i64 0, 7, hPm { m with pc := or16 (w16 (or16 0 (w16 b2) * 256)) (w16 b1), sp := w16 (m.sp - 2) } (M2 g (ix (w16 (m.sp - 2))) (w8 (w16 (m.pc + 3))) (ix (w16 (w16 (m.sp - 2) + 1))) (w8 ((w16 (m.pc + 3)).fdiv 256)))) := by kernel_rfl
theorem pd4_1 : endsAt [0, 1] (Ly.run ctx3 3000 [(53, false)] (sP m g 212 b1 b2)) = some ([(m.fc == false, false)], .int .i64 0, 6, hPm { m with pc := w16 (m.pc + 3) } (memL g)) := by kernel_rfl
theorem rd4_0 : endsAt [0, 1, 2] (Ly.run ctx3 3000 [(3, true), (0, true), (0, true), (1, true), (0, true), (0, true), (0, true), (68, true), (0, true), (0, true), (1, true), (0, true), (0, true), (0, true)] (sR m g 212)) = some (T [inw m.pc && true, rg (w16 (m.pc + 1)), bl (ix (w16 (m.pc + 1))), inw m.pc && true, rg (w16 (m.pc + 2)), bl (ix (w16 (m.pc + 2))), inw m.pc && true, !m.fc, inw m.sp && true, inw (w16 (m.sp + -2)) && true, rg (w16 (w16 (m.sp + -2) + 1)), bl (ix (w16 (w16 (m.sp + -2) + 1))), rg (w16 (m.sp + -2)), bl (ix (w16 (m.sp + -2)))], .int .i64 0, 4, hRm { m with pc := w16 (w16 (g (ix (w16 (m.pc + 1)))) + w16 (w16 (g (ix (w16 (m.pc + 2)))) * 256)), sp := w16 (m.sp + -2) } (M2 g (ix (w16 (w16 (m.sp + -2) + 1))) (w8 ((w16 (m.pc + 3)).fdiv 256)) (ix (w16 (m.sp + -2))) (w8 (and16 (w16 (m.pc + 3)) 255)))) := by kernel_rfl
theorem rd4_1 : endsAt [0, 1, 2] (Ly.run ctx3 3000 [(3, true), (0, true), (0, true), (1, true), (0, true), (0, true), (0, true), (68, false)] (sR m g 212)) = some ([(inw m.pc && true, true), (rg (w16 (m.pc + 1)), true), (bl (ix (w16 (m.pc + 1))), true), (inw m.pc && true, true), (rg (w16 (m.pc + 2)), true), (bl (ix (w16 (m.pc + 2))), true), (inw m.pc && true, true), (!m.fc, false)], .int .i64 0, 4, hRm { m with pc := w16 (m.pc + 3) } (memL g)) := by kernel_rfl
theorem od4 (hm : m.Ok) (hg : ∀ e, B8 (g e)) (hh : m.halt = false) (h0 : g (ix m.pc) = 212) : Both m g := by
  obtain ⟨r0, r1, r2, r3, r4, r5, r7, sp, pc⟩ := id hm
  cases hf : m.fc
  · exact join (m' := { m with pc := or16 (w16 (or16 0 (w16 (g (at1 m.pc 2))) * 256)) (w16 (g (at1 m.pc 1))), sp := w16 (m.sp - 2) }) (g' := (upd (upd g (ix (w16 (m.sp - 2))) (w8 (w16 (m.pc + 3)))) (ix (w16 (w16 (m.sp - 2) + 1))) (w8 ((w16 (m.pc + 3)).fdiv 256)))) hm hh h0 (pd4_0 m g _ _) (rd4_0 m g) (by simp [*]) (by simp [*]) (by decide) (by decide) (eP (m2s rfl rfl rfl rfl)) (eR (by simp [*]) (m2c (by simp [*]) (by simp [*]) (by simp [*]) (by simp [*]) (by simp [*]))) (by constructor <;> simp [*]) (upd_b8 (upd_b8 hg (by simp [*])) (by simp [*]))
  · exact joinA (m' := { m with pc := w16 (m.pc + 3) }) hm hh h0 (pd4_1 m g _ _) (rd4_1 m g) hg
@[simp] def zd5_0 (m : Mc) : Mc := { m with pc := w16 (m.pc + 1), sp := w16 (m.sp - 2) }
theorem pd5_0 : endsAt [0, 1] (Ly.run ctx3 3000 [(59, true), (0, true), (2, true), (0, true)] (sP m g 213 b1 b2)) = some (T [rg (w16 (m.sp - 2)), bl (ix (w16 (m.sp - 2))), rg (w16 (w16 (m.sp - 2) + 1)), bl (ix (w16 (w16 (m.sp - 2) + 1)))], .int .i64 0, 6, hPm (zd5_0 m) (M2 g (ix (w16 (m.sp - 2))) (w8 (or16 (w16 (w16 m.r2 * 256)) (w16 m.r3))) (ix (w16 (w16 (m.sp - 2) + 1))) (w8 ((or16 (w16 (w16 m.r2 * 256)) (w16 m.r3)).fdiv 256)))) := by kernel_rfl
theorem rd5_0 : endsAt [0, 1, 2] (Ly.run ctx3 3000 [(4, true), (35, true), (0, true), (0, true), (1, true), (0, true), (0, true), (0, true)] (sR m g 213)) = some (T [inw m.pc && true, inb m.r2 && inb m.r3, inw m.sp && true, inw (w16 (m.sp + -2)) && true, rg (w16 (w16 (m.sp + -2) + 1)), bl (ix (w16 (w16 (m.sp + -2) + 1))), rg (w16 (m.sp + -2)), bl (ix (w16 (m.sp + -2)))], .int .i64 0, 3, hRm { m with pc := w16 (m.pc + 1), sp := w16 (m.sp + -2) } (M2 g (ix (w16 (w16 (m.sp + -2) + 1))) (w8 ((256 * m.r2 + m.r3).fdiv 256)) (ix (w16 (m.sp + -2))) (w8 (and16 (256 * m.r2 + m.r3) 255)))) := by kernel_rfl
theorem od5 (hm : m.Ok) (hg : ∀ e, B8 (g e)) (hh : m.halt = false) (h0 : g (ix m.pc) = 213) : Both m g := by
  obtain ⟨r0, r1, r2, r3, r4, r5, r7, sp, pc⟩ := id hm
  exact join (m' := (zd5_0 m)) (g' := (upd (upd g (ix (w16 (m.sp - 2))) (w8 (or16 (w16 (w16 m.r2 * 256)) (w16 m.r3)))) (ix (w16 (w16 (m.sp - 2) + 1))) (w8 ((or16 (w16 (w16 m.r2 * 256)) (w16 m.r3)).fdiv 256)))) hm hh h0 (pd5_0 m g _ _) (rd5_0 m g) (by simp [*]) (by simp [*]) (by decide) (by decide) (eP (m2s rfl rfl rfl rfl)) (eR (by simp [*]) (m2c (by simp [*]) (by simp [*]) (by simp [*]) (by simp [*]) (by simp [*]))) (by constructor <;> simp [*]) (upd_b8 (upd_b8 hg (by simp [*])) (by simp [*]))
@[simp] def zd6_0 (m : Mc) (g : Nat → Int) : Mc := { m with fc := decide (m.r7 - w8 (or16 0 (w16 (g (at1 m.pc 1)))) - 0 < 0), fp := par ((m.r7 - w8 (or16 0 (w16 (g (at1 m.pc 1)))) - 0) % 256), fs := decide (128 ≤ (m.r7 - w8 (or16 0 (w16 (g (at1 m.pc 1)))) - 0) % 256), fx := decide (15 < m.r7 % 16 + 15 - w8 (or16 0 (w16 (g (at1 m.pc 1)))) % 16 + 1), fz := (m.r7 - w8 (or16 0 (w16 (g (at1 m.pc 1)))) - 0) % 256 == 0, pc := w16 (m.pc + 2), r7 := (m.r7 - w8 (or16 0 (w16 (g (at1 m.pc 1)))) - 0) % 256 }
@[simp] def zd6_1 (m : Mc) (b1 : Int) : Mc := { m with fc := decide (m.r7 - w8 (or16 0 (w16 b1)) - 0 < 0), fp := par ((m.r7 - w8 (or16 0 (w16 b1)) - 0) % 256), fs := decide (128 ≤ (m.r7 - w8 (or16 0 (w16 b1)) - 0) % 256), fx := decide (15 < m.r7 % 16 + 15 - w8 (or16 0 (w16 b1)) % 16 + 1), fz := (m.r7 - w8 (or16 0 (w16 b1)) - 0) % 256 == 0, pc := w16 (m.pc + 2), r7 := (m.r7 - w8 (or16 0 (w16 b1)) - 0) % 256 }
theorem pd6_0 : endsAt [0, 1] (Ly.run ctx3 3000 [(21, true), (7, true)] (sP m g 214 b1 b2)) = some (T [m.fc == true, inb m.r7 && inb (w8 (or16 0 (w16 b1)))], .int .i64 0, 5, hPm (zd6_1 m b1) (memL g)) := by kernel_rfl
theorem pd6_1 : endsAt [0, 1] (Ly.run ctx3 3000 [(21, false), (7, true)] (sP m g 214 b1 b2)) = some ([(m.fc == true, false), (inb m.r7 && inb (w8 (or16 0 (w16 b1))), true)], .int .i64 0, 5, hPm (zd6_1 m b1) (memL g)) := by kernel_rfl
theorem rd6_0 : endsAt [0, 1, 2] (Ly.run ctx3 3000 [(3, true), (0, true), (0, true), (1, true), (34, true)] (sR m g 214)) = some (T [inw m.pc && true, rg (w16 (m.pc + 1)), bl (ix (w16 (m.pc + 1))), inw m.pc && true, inb m.r7 && inb (w8 (w16 (g (ix (w16 (m.pc + 1))))))], .int .i64 0, 4, hRm { m with fc := decide (m.r7 - w8 (w16 (g (ix (w16 (m.pc + 1))))) - 0 < 0), fp := par ((m.r7 - w8 (w16 (g (ix (w16 (m.pc + 1))))) - 0) % 256), fs := decide (128 ≤ (m.r7 - w8 (w16 (g (ix (w16 (m.pc + 1))))) - 0) % 256), fx := decide (15 < m.r7 % 16 + 15 - w8 (w16 (g (ix (w16 (m.pc + 1))))) % 16 + 1), fz := (m.r7 - w8 (w16 (g (ix (w16 (m.pc + 1))))) - 0) % 256 == 0, pc := w16 (m.pc + 2), r7 := (m.r7 - w8 (w16 (g (ix (w16 (m.pc + 1))))) - 0) % 256 } (memL g)) := by kernel_rfl
theorem od6 (hm : m.Ok) (hg : ∀ e, B8 (g e)) (hh : m.halt = false) (h0 : g (ix m.pc) = 214) : Both m g := by
  obtain ⟨r0, r1, r2, r3, r4, r5, r7, sp, pc⟩ := id hm
  cases hf : m.fc
  · exact joinA (m' := (zd6_0 m g)) hm hh h0 (pd6_1 m g _ _) (rd6_0 m g) hg
  · exact joinA (m' := (zd6_0 m g)) hm hh h0 (pd6_0 m g _ _) (rd6_0 m g) hg
@[simp] def zd7_0 (m : Mc) : Mc := { m with pc := 16, sp := w16 (m.sp - 2) }
theorem pd7_0 : endsAt [0, 1] (Ly.run ctx3 3000 [(44, true), (0, true), (2, true), (0, true)] (sP m g 215 b1 b2)) = some (T [rg (w16 (m.sp - 2)), bl (ix (w16 (m.sp - 2))), rg (w16 (w16 (m.sp - 2) + 1)), bl (ix (w16 (w16 (m.sp - 2) + 1)))], .int .i64 0, 6, hPm (zd7_0 m) (M2 g (ix (w16 (m.sp - 2))) (w8 (w16 (m.pc + 1))) (ix (w16 (w16 (m.sp - 2) + 1))) (w8 ((w16 (m.pc + 1)).fdiv 256)))) := by kernel_rfl
theorem rd7_0 : endsAt [0, 1, 2] (Ly.run ctx3 3000 [(4, true), (24, true), (0, true), (1, true), (0, true), (0, true), (0, true)] (sR m g 215)) = some (T [inw m.pc && true, inw m.sp && true, inw (w16 (m.sp + -2)) && true, rg (w16 (w16 (m.sp + -2) + 1)), bl (ix (w16 (w16 (m.sp + -2) + 1))), rg (w16 (m.sp + -2)), bl (ix (w16 (m.sp + -2)))], .int .i64 0, 3, hRm { m with pc := 16, sp := w16 (m.sp + -2) } (M2 g (ix (w16 (w16 (m.sp + -2) + 1))) (w8 ((w16 (m.pc + 1)).fdiv 256)) (ix (w16 (m.sp + -2))) (w8 (and16 (w16 (m.pc + 1)) 255)))) := by kernel_rfl
theorem od7 (hm : m.Ok) (hg : ∀ e, B8 (g e)) (hh : m.halt = false) (h0 : g (ix m.pc) = 215) : Both m g := by
  obtain ⟨r0, r1, r2, r3, r4, r5, r7, sp, pc⟩ := id hm
  exact join (m' := (zd7_0 m)) (g' := (upd (upd g (ix (w16 (m.sp - 2))) (w8 (w16 (m.pc + 1)))) (ix (w16 (w16 (m.sp - 2) + 1))) (w8 ((w16 (m.pc + 1)).fdiv 256)))) hm hh h0 (pd7_0 m g _ _) (rd7_0 m g) (by simp [*]) (by simp [*]) (by decide) (by decide) (eP (m2s rfl rfl rfl rfl)) (eR (by simp [*]) (m2c (by simp [*]) (by simp [*]) (by simp [*]) (by simp [*]) (by simp [*]))) (by constructor <;> simp [*]) (upd_b8 (upd_b8 hg (by simp [*])) (by simp [*]))
@[simp] def zd8_0 (m : Mc) (g : Nat → Int) : Mc := { m with pc := or16 (w16 (g (ix (w16 (w16 (m.sp + 2) - 2))))) (w16 (w16 (g (ix (w16 (w16 (w16 (m.sp + 2) - 2) + 1)))) * 256)), sp := w16 (m.sp + 2) }
theorem pd8_0 : endsAt [0, 1] (Ly.run ctx3 3000 [(43, true), (0, true), (0, true), (0, true), (0, true)] (sP m g 216 b1 b2)) = some (T [m.fc == true, rg (w16 (w16 (m.sp + 2) - 2)), bl (ix (w16 (w16 (m.sp + 2) - 2))), rg (w16 (w16 (w16 (m.sp + 2) - 2) + 1)), bl (ix (w16 (w16 (w16 (m.sp + 2) - 2) + 1)))], .int .i64 0, 6, hPm (zd8_0 m g) (memL g)) := by kernel_rfl
theorem pd8_1 : endsAt [0, 1] (Ly.run ctx3 3000 [(43, false)] (sP m g 216 b1 b2)) = some ([(m.fc == true, false)], .int .i64 0, 6, hPm { m with pc := w16 (m.pc + 1) } (memL g)) := by kernel_rfl
theorem rd8_0 : endsAt [0, 1, 2] (Ly.run ctx3 3000 [(4, true), (49, true), (0, true), (0, true), (0, true), (0, true), (0, true), (0, true), (0, true)] (sR m g 216)) = some (T [inw m.pc && true, m.fc, inw m.sp && true, rg (w16 (m.sp + 1)), bl (ix (w16 (m.sp + 1))), rg (m.sp), bl (ix m.sp), inb (g (ix (w16 (m.sp + 1)))) && inb (g (ix m.sp)), inw m.sp && true], .int .i64 0, 4, hRm { m with pc := 256 * g (ix (w16 (m.sp + 1))) + g (ix m.sp), sp := w16 (m.sp + 2) } (memL g)) := by kernel_rfl
theorem rd8_1 : endsAt [0, 1, 2] (Ly.run ctx3 3000 [(4, true), (49, false)] (sR m g 216)) = some ([(inw m.pc && true, true), (m.fc, false)], .int .i64 0, 4, hRm { m with pc := w16 (m.pc + 1) } (memL g)) := by kernel_rfl
theorem od8 (hm : m.Ok) (hg : ∀ e, B8 (g e)) (hh : m.halt = false) (h0 : g (ix m.pc) = 216) : Both m g := by
  obtain ⟨r0, r1, r2, r3, r4, r5, r7, sp, pc⟩ := id hm
  cases hf : m.fc
  · exact joinA (m' := { m with pc := w16 (m.pc + 1) }) hm hh h0 (pd8_1 m g _ _) (rd8_1 m g) hg
  · exact joinA (m' := (zd8_0 m g)) hm hh h0 (pd8_0 m g _ _) (rd8_0 m g) hg
theorem pd9_0 : endsAt [0, 1] (Ly.run ctx3 3000 [] (sP m g 217 b1 b2)) = some (T [], .int .i64 8, 5, hPm m (memL g)) := by kernel_rfl
theorem rd9_0 : endsAt [0, 1, 2] (Ly.run ctx3 3000 [] (sR m g 217)) = some (T [], .int .i64 8, 3, hRm m (memL g)) := by kernel_rfl
theorem od9 (hm : m.Ok) (hg : ∀ e, B8 (g e)) (hh : m.halt = false) (h0 : g (ix m.pc) = 217) : Both m g := by
  obtain ⟨r0, r1, r2, r3, r4, r5, r7, sp, pc⟩ := id hm
  exact join (m' := m) (g' := g) hm hh h0 (pd9_0 m g _ _) (rd9_0 m g) (by simp [*]) (by simp [*]) (by decide) (by decide) (eP (.inl rfl)) (eR rfl (.inl rfl)) (by constructor <;> simp [*]) hg
theorem pda_0 : endsAt [0, 1] (Ly.run ctx3 3000 [(51, true)] (sP m g 218 b1 b2)) = some (T [m.fc == true], .int .i64 0, 6, hPm { m with pc := or16 (w16 (or16 0 (w16 b2) * 256)) (w16 b1) } (memL g)) := by kernel_rfl
theorem pda_1 : endsAt [0, 1] (Ly.run ctx3 3000 [(51, false)] (sP m g 218 b1 b2)) = some ([(m.fc == true, false)], .int .i64 0, 6, hPm { m with pc := w16 (m.pc + 3) } (memL g)) := by kernel_rfl
theorem rda_0 : endsAt [0, 1, 2] (Ly.run ctx3 3000 [(3, true), (0, true), (0, true), (1, true), (0, true), (0, true), (0, true), (59, true)] (sR m g 218)) = some (T [inw m.pc && true, rg (w16 (m.pc + 1)), bl (ix (w16 (m.pc + 1))), inw m.pc && true, rg (w16 (m.pc + 2)), bl (ix (w16 (m.pc + 2))), inw m.pc && true, m.fc], .int .i64 0, 4, hRm { m with pc := w16 (w16 (g (ix (w16 (m.pc + 1)))) + w16 (w16 (g (ix (w16 (m.pc + 2)))) * 256)) } (memL g)) := by kernel_rfl
theorem rda_1 : endsAt [0, 1, 2] (Ly.run ctx3 3000 [(3, true), (0, true), (0, true), (1, true), (0, true), (0, true), (0, true), (59, false)] (sR m g 218)) = some ([(inw m.pc && true, true), (rg (w16 (m.pc + 1)), true), (bl (ix (w16 (m.pc + 1))), true), (inw m.pc && true, true), (rg (w16 (m.pc + 2)), true), (bl (ix (w16 (m.pc + 2))), true), (inw m.pc && true, true), (m.fc, false)], .int .i64 0, 4, hRm { m with pc := w16 (m.pc + 3) } (memL g)) := by kernel_rfl
theorem oda (hm : m.Ok) (hg : ∀ e, B8 (g e)) (hh : m.halt = false) (h0 : g (ix m.pc) = 218) : Both m g := by
  obtain ⟨r0, r1, r2, r3, r4, r5, r7, sp, pc⟩ := id hm
  cases hf : m.fc
  · exact joinA (m' := { m with pc := w16 (m.pc + 3) }) hm hh h0 (pda_1 m g _ _) (rda_1 m g) hg
  · exact joinA (m' := { m with pc := or16 (w16 (or16 0 (w16 (g (at1 m.pc 2))) * 256)) (w16 (g (at1 m.pc 1))) }) hm hh h0 (pda_0 m g _ _) (rda_0 m g) hg
theorem pdc_0 : endsAt [0, 1] (Ly.run ctx3 3000 [(53, true), (3, true), (0, true), (2, true), (0, true)] (sP m g 220 b1 b2)) = some (T [m.fc == true, rg (w16 (m.sp - 2)), bl (ix (w16 (m.sp - 2))), rg (w16 (w16 (m.sp - 2) + 1)), bl (ix (w16 (w16 (m.sp - 2) + 1)))], .int .i64 0, 7, hPm { m with pc := or16 (w16 (or16 0 (w16 b2) * 256)) (w16 b1), sp := w16 (m.sp - 2) } (M2 g (ix (w16 (m.sp - 2))) (w8 (w16 (m.pc + 3))) (ix (w16 (w16 (m.sp - 2) + 1))) (w8 ((w16 (m.pc + 3)).fdiv 256)))) := by kernel_rfl
theorem pdc_1 : endsAt [0, 1] (Ly.run ctx3 3000 [(53, false)] (sP m g 220 b1 b2)) = some ([(m.fc == true, false)], .int .i64 0, 6, hPm { m with pc := w16 (m.pc + 3) } (memL g)) := by kernel_rfl
theorem rdc_0 : endsAt [0, 1, 2] (Ly.run ctx3 3000 [(3, true), (0, true), (0, true), (1, true), (0, true), (0, true), (0, true), (69, true), (0, true), (0, true), (1, true), (0, true), (0, true), (0, true)] (sR m g 220)) = some (T [inw m.pc && true, rg (w16 (m.pc + 1)), bl (ix (w16 (m.pc + 1))), inw m.pc && true, rg (w16 (m.pc + 2)), bl (ix (w16 (m.pc + 2))), inw m.pc && true, m.fc, inw m.sp && true, inw (w16 (m.sp + -2)) && true, rg (w16 (w16 (m.sp + -2) + 1)), bl (ix (w16 (w16 (m.sp + -2) + 1))), rg (w16 (m.sp + -2)), bl (ix (w16 (m.sp + -2)))], .int .i64 0, 4, hRm { m with pc := w16 (w16 (g (ix (w16 (m.pc + 1)))) + w16 (w16 (g (ix (w16 (m.pc + 2)))) * 256)), sp := w16 (m.sp + -2) } (M2 g (ix (w16 (w16 (m.sp + -2) + 1))) (w8 ((w16 (m.pc + 3)).fdiv 256)) (ix (w16 (m.sp + -2))) (w8 (and16 (w16 (m.pc + 3)) 255)))) := by kernel_rfl
theorem rdc_1 : endsAt [0, 1, 2] (Ly.run ctx3 3000 [(3, true), (0, true), (0, true), (1, true), (0, true), (0, true), (0, true), (69, false)] (sR m g 220)) = some ([(inw m.pc && true, true), (rg (w16 (m.pc + 1)), true), (bl (ix (w16 (m.pc + 1))), true), (inw m.pc && true, true), (rg (w16 (m.pc + 2)), true), (bl (ix (w16 (m.pc + 2))), true), (inw m.pc && true, true), (m.fc, false)], .int .i64 0, 4, hRm { m with pc := w16 (m.pc + 3) } (memL g)) := by kernel_rfl
theorem odc (hm : m.Ok) (hg : ∀ e, B8 (g e)) (hh : m.halt = false) (h0 : g (ix m.pc) = 220) : Both m g := by
  obtain ⟨r0, r1, r2, r3, r4, r5, r7, sp, pc⟩ := id hm
  cases hf : m.fc
  · exact joinA (m' := { m with pc := w16 (m.pc + 3) }) hm hh h0 (pdc_1 m g _ _) (rdc_1 m g) hg
  · exact join (m' := { m with pc := or16 (w16 (or16 0 (w16 (g (at1 m.pc 2))) * 256)) (w16 (g (at1 m.pc 1))), sp := w16 (m.sp - 2) }) (g' := (upd (upd g (ix (w16 (m.sp - 2))) (w8 (w16 (m.pc + 3)))) (ix (w16 (w16 (m.sp - 2) + 1))) (w8 ((w16 (m.pc + 3)).fdiv 256)))) hm hh h0 (pdc_0 m g _ _) (rdc_0 m g) (by simp [*]) (by simp [*]) (by decide) (by decide) (eP (m2s rfl rfl rfl rfl)) (eR (by simp [*]) (m2c (by simp [*]) (by simp [*]) (by simp [*]) (by simp [*]) (by simp [*]))) (by constructor <;> simp [*]) (upd_b8 (upd_b8 hg (by simp [*])) (by simp [*]))
theorem pdd_0 : endsAt [0, 1] (Ly.run ctx3 3000 [] (sP m g 221 b1 b2)) = some (T [], .int .i64 8, 5, hPm m (memL g)) := by kernel_rfl
theorem rdd_0 : endsAt [0, 1, 2] (Ly.run ctx3 3000 [] (sR m g 221)) = some (T [], .int .i64 8, 3, hRm m (memL g)) := by kernel_rfl
theorem odd (hm : m.Ok) (hg : ∀ e, B8 (g e)) (hh : m.halt = false) (h0 : g (ix m.pc) = 221) : Both m g := by
  obtain ⟨r0, r1, r2, r3, r4, r5, r7, sp, pc⟩ := id hm
  exact join (m' := m) (g' := g) hm hh h0 (pdd_0 m g _ _) (rdd_0 m g) (by simp [*]) (by simp [*]) (by decide) (by decide) (eP (.inl rfl)) (eR rfl (.inl rfl)) (by constructor <;> simp [*]) hg
theorem pde_0 : endsAt [0, 1] (Ly.run ctx3 3000 [(21, true), (7, true)] (sP m g 222 b1 b2)) = some (T [m.fc == true, inb m.r7 && inb (w8 (or16 0 (w16 b1)))], .int .i64 0, 5, hPm { m with fc := decide (m.r7 - w8 (or16 0 (w16 b1)) - 1 < 0), fp := par ((m.r7 - w8 (or16 0 (w16 b1)) - 1) % 256), fs := decide (128 ≤ (m.r7 - w8 (or16 0 (w16 b1)) - 1) % 256), fx := decide (15 < m.r7 % 16 + 15 - w8 (or16 0 (w16 b1)) % 16 + 0), fz := (m.r7 - w8 (or16 0 (w16 b1)) - 1) % 256 == 0, pc := w16 (m.pc + 2), r7 := (m.r7 - w8 (or16 0 (w16 b1)) - 1) % 256 } (memL g)) := by kernel_rfl
theorem pde_1 : endsAt [0, 1] (Ly.run ctx3 3000 [(21, false), (7, true)] (sP m g 222 b1 b2)) = some ([(m.fc == true, false), (inb m.r7 && inb (w8 (or16 0 (w16 b1))), true)], .int .i64 0, 5, hPm { m with fc := decide (m.r7 - w8 (or16 0 (w16 b1)) - 0 < 0), fp := par ((m.r7 - w8 (or16 0 (w16 b1)) - 0) % 256), fs := decide (128 ≤ (m.r7 - w8 (or16 0 (w16 b1)) - 0) % 256), fx := decide (15 < m.r7 % 16 + 15 - w8 (or16 0 (w16 b1)) % 16 + 1), fz := (m.r7 - w8 (or16 0 (w16 b1)) - 0) % 256 == 0, pc := w16 (m.pc + 2), r7 := (m.r7 - w8 (or16 0 (w16 b1)) - 0) % 256 } (memL g)) := by kernel_rfl
theorem rde_0 : endsAt [0, 1, 2] (Ly.run ctx3 3000 [(3, true), (0, true), (0, true), (1, true), (35, true)] (sR m g 222)) = some (T [inw m.pc && true, rg (w16 (m.pc + 1)), bl (ix (w16 (m.pc + 1))), inw m.pc && true, inb m.r7 && inb (w8 (w16 (g (ix (w16 (m.pc + 1))))))], .int .i64 0, 4, hRm { m with fc := decide (m.r7 - w8 (w16 (g (ix (w16 (m.pc + 1))))) - cI m.fc < 0), fp := par ((m.r7 - w8 (w16 (g (ix (w16 (m.pc + 1))))) - cI m.fc) % 256), fs := decide (128 ≤ (m.r7 - w8 (w16 (g (ix (w16 (m.pc + 1))))) - cI m.fc) % 256), fx := decide (15 < m.r7 % 16 + 15 - w8 (w16 (g (ix (w16 (m.pc + 1))))) % 16 + cI !m.fc), fz := (m.r7 - w8 (w16 (g (ix (w16 (m.pc + 1))))) - cI m.fc) % 256 == 0, pc := w16 (m.pc + 2), r7 := (m.r7 - w8 (w16 (g (ix (w16 (m.pc + 1))))) - cI m.fc) % 256 } (memL g)) := by kernel_rfl
theorem ode (hm : m.Ok) (hg : ∀ e, B8 (g e)) (hh : m.halt = false) (h0 : g (ix m.pc) = 222) : Both m g := by
  obtain ⟨r0, r1, r2, r3, r4, r5, r7, sp, pc⟩ := id hm
  cases hf : m.fc
  · exact joinA (m' := { m with fc := decide (m.r7 - w8 (or16 0 (w16 (g (at1 m.pc 1)))) - 0 < 0), fp := par ((m.r7 - w8 (or16 0 (w16 (g (at1 m.pc 1)))) - 0) % 256), fs := decide (128 ≤ (m.r7 - w8 (or16 0 (w16 (g (at1 m.pc 1)))) - 0) % 256), fx := decide (15 < m.r7 % 16 + 15 - w8 (or16 0 (w16 (g (at1 m.pc 1)))) % 16 + 1), fz := (m.r7 - w8 (or16 0 (w16 (g (at1 m.pc 1)))) - 0) % 256 == 0, pc := w16 (m.pc + 2), r7 := (m.r7 - w8 (or16 0 (w16 (g (at1 m.pc 1)))) - 0) % 256 }) hm hh h0 (pde_1 m g _ _) (rde_0 m g) hg
  · exact joinA (m' := { m with fc := decide (m.r7 - w8 (or16 0 (w16 (g (at1 m.pc 1)))) - 1 < 0), fp := par ((m.r7 - w8 (or16 0 (w16 (g (at1 m.pc 1)))) - 1) % 256), fs := decide (128 ≤ (m.r7 - w8 (or16 0 (w16 (g (at1 m.pc 1)))) - 1) % 256), fx := decide (15 < m.r7 % 16 + 15 - w8 (or16 0 (w16 (g (at1 m.pc 1)))) % 16 + 0), fz := (m.r7 - w8 (or16 0 (w16 (g (at1 m.pc 1)))) - 1) % 256 == 0, pc := w16 (m.pc + 2), r7 := (m.r7 - w8 (or16 0 (w16 (g (at1 m.pc 1)))) - 1) % 256 }) hm hh h0 (pde_0 m g _ _) (rde_0 m g) hg
@[simp] def zdf_0 (m : Mc) : Mc := { m with pc := 24, sp := w16 (m.sp - 2) }
theorem pdf_0 : endsAt [0, 1] (Ly.run ctx3 3000 [(44, true), (0, true), (2, true), (0, true)] (sP m g 223 b1 b2)) = some (T [rg (w16 (m.sp - 2)), bl (ix (w16 (m.sp - 2))), rg (w16 (w16 (m.sp - 2) + 1)), bl (ix (w16 (w16 (m.sp - 2) + 1)))], .int .i64 0, 6, hPm (zdf_0 m) (M2 g (ix (w16 (m.sp - 2))) (w8 (w16 (m.pc + 1))) (ix (w16 (w16 (m.sp - 2) + 1))) (w8 ((w16 (m.pc + 1)).fdiv 256)))) := by kernel_rfl
theorem rdf_0 : endsAt [0, 1, 2] (Ly.run ctx3 3000 [(4, true), (24, true), (0, true), (1, true), (0, true), (0, true), (0, true)] (sR m g 223)) = some (T [inw m.pc && true, inw m.sp && true, inw (w16 (m.sp + -2)) && true, rg (w16 (w16 (m.sp + -2) + 1)), bl (ix (w16 (w16 (m.sp + -2) + 1))), rg (w16 (m.sp + -2)), bl (ix (w16 (m.sp + -2)))], .int .i64 0, 3, hRm { m with pc := 24, sp := w16 (m.sp + -2) } (M2 g (ix (w16 (w16 (m.sp + -2) + 1))) (w8 ((w16 (m.pc + 1)).fdiv 256)) (ix (w16 (m.sp + -2))) (w8 (and16 (w16 (m.pc + 1)) 255)))) := by kernel_rfl
theorem odf (hm : m.Ok) (hg : ∀ e, B8 (g e)) (hh : m.halt = false) (h0 : g (ix m.pc) = 223) : Both m g := by
  obtain ⟨r0, r1, r2, r3, r4, r5, r7, sp, pc⟩ := id hm
  exact join (m' := (zdf_0 m)) (g' := (upd (upd g (ix (w16 (m.sp - 2))) (w8 (w16 (m.pc + 1)))) (ix (w16 (w16 (m.sp - 2) + 1))) (w8 ((w16 (m.pc + 1)).fdiv 256)))) hm hh h0 (pdf_0 m g _ _) (rdf_0 m g) (by simp [*]) (by simp [*]) (by decide) (by decide) (eP (m2s rfl rfl rfl rfl)) (eR (by simp [*]) (m2c (by simp [*]) (by simp [*]) (by simp [*]) (by simp [*]) (by simp [*]))) (by constructor <;> simp [*]) (upd_b8 (upd_b8 hg (by simp [*])) (by simp [*]))
theorem blk13 (m : Mc) (g : Nat → Int) (hm : m.Ok) (hg : ∀ e, B8 (g e)) (hh : m.halt = false) (h1 : 208 ≤ g (ix m.pc)) (h2 : g (ix m.pc) < 224) (hi : g (ix m.pc) ≠ 219) (ho : g (ix m.pc) ≠ 211) : Both m g := by
  have h : g (ix m.pc) = 208 ∨ g (ix m.pc) = 209 ∨ g (ix m.pc) = 210 ∨ g (ix m.pc) = 212 ∨ g (ix m.pc) = 213 ∨ g (ix m.pc) = 214 ∨ g (ix m.pc) = 215 ∨ g (ix m.pc) = 216 ∨ g (ix m.pc) = 217 ∨ g (ix m.pc) = 218 ∨ g (ix m.pc) = 220 ∨ g (ix m.pc) = 221 ∨ g (ix m.pc) = 222 ∨ g (ix m.pc) = 223 := by omega
  rcases h with h | h | h | h | h | h | h | h | h | h | h | h | h | h
  · exact od0 m g hm hg hh h
  · exact od1 m g hm hg hh h
  · exact od2 m g hm hg hh h
  · exact od4 m g hm hg hh h
  · exact od5 m g hm hg hh h
  · exact od6 m g hm hg hh h
  · exact od7 m g hm hg hh h
  · exact od8 m g hm hg hh h
  · exact od9 m g hm hg hh h
  · exact oda m g hm hg hh h
  · exact odc m g hm hg hh h
  · exact odd m g hm hg hh h
  · exact ode m g hm hg hh h
  · exact odf m g hm hg hh h
end Go.Proofs.Ytpggoincnebfnaa
namespace Go.Proofs.Ytpggoincnebfnaa
open Go Go.Ly Go.RowKit
variable (m : Mc) (g : Nat → Int) (b1 b2 : Int)
@[simp] def ze0_0 (m : Mc) (g : Nat → Int) : Mc := { m with pc := or16 (w16 (g (ix (w16 (w16 (m.sp + 2) - 2))))) (w16 (w16 (g (ix (w16 (w16 (w16 (m.sp + 2) - 2) + 1)))) * 256)), sp := w16 (m.sp + 2) }
theorem pe0_0 : endsAt [0, 1] (Ly.run ctx3 3000 [(43, true), (0, true), (0, true), (0, true), (0, true)] (sP m g 224 b1 b2)) = some (T [m.fp == false, rg (w16 (w16 (m.sp + 2) - 2)), bl (ix (w16 (w16 (m.sp + 2) - 2))), rg (w16 (w16 (w16 (m.sp + 2) - 2) + 1)), bl (ix (w16 (w16 (w16 (m.sp + 2) - 2) + 1)))], .int .i64 0, 6, hPm (ze0_0 m g) (memL g)) := by kernel_rfl
theorem pe0_1 : endsAt [0, 1] (Ly.run ctx3 3000 [(43, false)] (sP m g 224 b1 b2)) = some ([(m.fp == false, false)], .int .i64 0, 6, hPm { m with pc := w16 (m.pc + 1) } (memL g)) := by kernel_rfl
theorem re0_0 : endsAt [0, 1, 2] (Ly.run ctx3 3000 [(4, true), (50, true), (0, true), (0, true), (0, true), (0, true), (0, true), (0, true), (0, true)] (sR m g 224)) = some (T [inw m.pc && true, !m.fp, inw m.sp && true, rg (w16 (m.sp + 1)), bl (ix (w16 (m.sp + 1))), rg (m.sp), bl (ix m.sp), inb (g (ix (w16 (m.sp + 1)))) && inb (g (ix m.sp)), inw m.sp && true], .int .i64 0, 4, hRm { m with pc := 256 * g (ix (w16 (m.sp + 1))) + g (ix m.sp), sp := w16 (m.sp + 2) } (memL g)) := by kernel_rfl
theorem re0_1 : endsAt [0, 1, 2] (Ly.run ctx3 3000 [(4, true), (50, false)] (sR m g 224)) = some ([(inw m.pc && true, true), (!m.fp, false)], .int .i64 0, 4, hRm { m with pc := w16 (m.pc + 1) } (memL g)) := by kernel_rfl
theorem oe0 (hm : m.Ok) (hg : ∀ e, B8 (g e)) (hh : m.halt = false) (h0 : g (ix m.pc) = 224) : Both m g := by
  obtain ⟨r0, r1, r2, r3, r4, r5, r7, sp, pc⟩ := id hm
  cases hf : m.fp
  · exact joinA (m' := (ze0_0 m g)) hm hh h0 (pe0_0 m g _ _) (re0_0 m g) hg
  · exact joinA (m' := { m with pc := w16 (m.pc + 1) }) hm hh h0 (pe0_1 m g _ _) (re0_1 m g) hg
@[simp] def ze1_0 (m : Mc) (g : Nat → Int) : Mc := { m with pc := w16 (m.pc + 1), r4 := w8 ((or16 (w16 (g (ix (w16 (w16 (m.sp + 2) - 2))))) (w16 (w16 (g (ix (w16 (w16 (w16 (m.sp + 2) - 2) + 1)))) * 256))).fdiv 256), r5 := w8 (or16 (w16 (g (ix (w16 (w16 (m.sp + 2) - 2))))) (w16 (w16 (g (ix (w16 (w16 (w16 (m.sp + 2) - 2) + 1)))) * 256))), sp := w16 (m.sp + 2) }
theorem pe1_0 : endsAt [0, 1] (Ly.run ctx3 3000 [(45, true), (0, true), (0, true), (0, true)] (sP m g 225 b1 b2)) = some (T [rg (w16 (w16 (m.sp + 2) - 2)), bl (ix (w16 (w16 (m.sp + 2) - 2))), rg (w16 (w16 (w16 (m.sp + 2) - 2) + 1)), bl (ix (w16 (w16 (w16 (m.sp + 2) - 2) + 1)))], .int .i64 0, 5, hPm (ze1_0 m g) (memL g)) := by kernel_rfl
theorem re1_0 : endsAt [0, 1, 2] (Ly.run ctx3 3000 [(4, true), (34, true), (0, true), (0, true), (0, true), (0, true), (0, true), (0, true)] (sR m g 225)) = some (T [inw m.pc && true, inw m.sp && true, rg (w16 (m.sp + 1)), bl (ix (w16 (m.sp + 1))), rg (m.sp), bl (ix m.sp), inb (g (ix (w16 (m.sp + 1)))) && inb (g (ix m.sp)), inw m.sp && true], .int .i64 0, 3, hRm { m with pc := w16 (m.pc + 1), r4 := w8 ((256 * g (ix (w16 (m.sp + 1))) + g (ix m.sp)).fdiv 256), r5 := w8 (and16 (256 * g (ix (w16 (m.sp + 1))) + g (ix m.sp)) 255), sp := w16 (m.sp + 2) } (memL g)) := by kernel_rfl
theorem oe1 (hm : m.Ok) (hg : ∀ e, B8 (g e)) (hh : m.halt = false) (h0 : g (ix m.pc) = 225) : Both m g := by
  obtain ⟨r0, r1, r2, r3, r4, r5, r7, sp, pc⟩ := id hm
  exact joinA (m' := (ze1_0 m g)) hm hh h0 (pe1_0 m g _ _) (re1_0 m g) hg
theorem pe2_0 : endsAt [0, 1] (Ly.run ctx3 3000 [(51, true)] (sP m g 226 b1 b2)) = some (T [m.fp == false], .int .i64 0, 6, hPm { m with pc := or16 (w16 (or16 0 (w16 b2) * 256)) (w16 b1) } (memL g)) := by kernel_rfl
theorem pe2_1 : endsAt [0, 1] (Ly.run ctx3 3000 [(51, false)] (sP m g 226 b1 b2)) = some ([(m.fp == false, false)], .int .i64 0, 6, hPm { m with pc := w16 (m.pc + 3) } (memL g)) := by kernel_rfl
theorem re2_0 : endsAt [0, 1, 2] (Ly.run ctx3 3000 [(3, true), (0, true), (0, true), (1, true), (0, true), (0, true), (0, true), (60, true)] (sR m g 226)) = some (T [inw m.pc && true, rg (w16 (m.pc + 1)), bl (ix (w16 (m.pc + 1))), inw m.pc && true, rg (w16 (m.pc + 2)), bl (ix (w16 (m.pc + 2))), inw m.pc && true, !m.fp], .int .i64 0, 4, hRm { m with pc := w16 (w16 (g (ix (w16 (m.pc + 1)))) + w16 (w16 (g (ix (w16 (m.pc + 2)))) * 256)) } (memL g)) := by kernel_rfl
theorem re2_1 : endsAt [0, 1, 2] (Ly.run ctx3 3000 [(3, true), (0, true), (0, true), (1, true), (0, true), (0, true), (0, true), (60, false)] (sR m g 226)) = some ([(inw m.pc && true, true), (rg (w16 (m.pc + 1)), true), (bl (ix (w16 (m.pc + 1))), true), (inw m.pc && true, true), (rg (w16 (m.pc + 2)), true), (bl (ix (w16 (m.pc + 2))), true), (inw m.pc && true, true), (!m.fp, false)], .int .i64 0, 4, hRm { m with pc := w16 (m.pc + 3) } (memL g)) := by kernel_rfl
theorem oe2 (hm : m.Ok) (hg : ∀ e, B8 (g e)) (hh : m.halt = false) (h0 : g (ix m.pc) = 226) : Both m g := by
  obtain ⟨r0, r1, r2, r3, r4, r5, r7, sp, pc⟩ := id hm
  cases hf : m.fp
  · exact joinA (m' := { m with pc := or16 (w16 (or16 0 (w16 (g (at1 m.pc 2))) * 256)) (w16 (g (at1 m.pc 1))) }) hm hh h0 (pe2_0 m g _ _) (re2_0 m g) hg
  · exact joinA (m' := { m with pc := w16 (m.pc + 3) }) hm hh h0 (pe2_1 m g _ _) (re2_1 m g) hg
@[simp] def ze3_0 (m : Mc) (g : Nat → Int) : Mc := { m with pc := w16 (m.pc + 1), r4 := w8 ((or16 (w16 (g (ix m.sp))) (w16 (w16 (g (ix (w16 (m.sp + 1)))) * 256))).fdiv 256), r5 := w8 (or16 (w16 (g (ix m.sp))) (w16 (w16 (g (ix (w16 (m.sp + 1)))) * 256))) }
theorem pe3_0 : endsAt [0, 1] (Ly.run ctx3 3000 [(60, true), (0, true), (0, true), (0, true), (8, true), (0, true), (2, true), (0, true)] (sP m g 227 b1 b2)) = some (T [rg (m.sp), bl (ix m.sp), rg (w16 (m.sp + 1)), bl (ix (w16 (m.sp + 1))), rg (m.sp), bl (ix m.sp), rg (w16 (m.sp + 1)), bl (ix (w16 (m.sp + 1)))], .int .i64 0, 6, hPm (ze3_0 m g) (M2 g (ix m.sp) (w8 (or16 (w16 (w16 m.r4 * 256)) (w16 m.r5))) (ix (w16 (m.sp + 1))) (w8 ((or16 (w16 (w16 m.r4 * 256)) (w16 m.r5)).fdiv 256)))) := by kernel_rfl
theorem re3_0 : endsAt [0, 1, 2] (Ly.run ctx3 3000 [(4, true), (70, true), (3, true), (0, true), (0, true), (0, true), (0, true), (0, true), (0, true), (0, true), (0, true), (1, true), (0, true), (0, true), (0, true)] (sR m g 227)) = some (T [inw m.pc && true, inb m.r4 && inb m.r5, inw m.sp && true, rg (w16 (m.sp + 1)), bl (ix (w16 (m.sp + 1))), rg (m.sp), bl (ix m.sp), inb (g (ix (w16 (m.sp + 1)))) && inb (g (ix m.sp)), inw m.sp && true, inw (w16 (m.sp + 2)) && true, inw (w16 (w16 (m.sp + 2) + -2)) && true, rg (w16 (w16 (w16 (m.sp + 2) + -2) + 1)), bl (ix (w16 (w16 (w16 (m.sp + 2) + -2) + 1))), rg (w16 (w16 (m.sp + 2) + -2)), bl (ix (w16 (w16 (m.sp + 2) + -2)))], .int .i64 0, 3, hRm { m with pc := w16 (m.pc + 1), r4 := w8 ((256 * g (ix (w16 (m.sp + 1))) + g (ix m.sp)).fdiv 256), r5 := w8 (and16 (256 * g (ix (w16 (m.sp + 1))) + g (ix m.sp)) 255), sp := w16 (w16 (m.sp + 2) + -2) } (M2 g (ix (w16 (w16 (w16 (m.sp + 2) + -2) + 1))) (w8 ((256 * m.r4 + m.r5).fdiv 256)) (ix (w16 (w16 (m.sp + 2) + -2))) (w8 (and16 (256 * m.r4 + m.r5) 255)))) := by kernel_rfl
theorem oe3 (hm : m.Ok) (hg : ∀ e, B8 (g e)) (hh : m.halt = false) (h0 : g (ix m.pc) = 227) : Both m g := by
  obtain ⟨r0, r1, r2, r3, r4, r5, r7, sp, pc⟩ := id hm
  exact join (m' := (ze3_0 m g)) (g' := (upd (upd g (ix m.sp) (w8 (or16 (w16 (w16 m.r4 * 256)) (w16 m.r5)))) (ix (w16 (m.sp + 1))) (w8 ((or16 (w16 (w16 m.r4 * 256)) (w16 m.r5)).fdiv 256)))) hm hh h0 (pe3_0 m g _ _) (re3_0 m g) (by simp [*]) (by simp [*]) (by decide) (by decide) (eP (m2s rfl rfl rfl rfl)) (eR (by simp [*]) (m2c (by simp [*]) (by simp [*]) (by simp [*]) (by simp [*]) (by simp [*]))) (by constructor <;> simp [*]) (upd_b8 (upd_b8 hg (by simp [*])) (by simp [*]))
theorem pe4_0 : endsAt [0, 1] (Ly.run ctx3 3000 [(53, true), (3, true), (0, true), (2, true), (0, true)] (sP m g 228 b1 b2)) = some (T [m.fp == false, rg (w16 (m.sp - 2)), bl (ix (w16 (m.sp - 2))), rg (w16 (w16 (m.sp - 2) + 1)), bl (ix (w16 (w16 (m.sp - 2) + 1)))], .int .i64 0, 7, hPm { m with pc := or16 (w16 (or16 0 (w16 b2) * 256)) (w16 b1), sp := w16 (m.sp - 2) } (M2 g (ix (w16 (m.sp - 2))) (w8 (w16 (m.pc + 3))) (ix (w16 (w16 (m.sp - 2) + 1))) (w8 ((w16 (m.pc + 3)).fdiv 256)))) := by kernel_rfl
theorem pe4_1 : endsAt [0, 1] (Ly.run ctx3 3000 [(53, false)] (sP m g 228 b1 b2)) = some ([(m.fp == false, false)], .int .i64 0, 6, hPm { m with pc := w16 (m.pc + 3) } (memL g)) := by kernel_rfl
theorem re4_0 : endsAt [0, 1, 2] (Ly.run ctx3 3000 [(3, true), (0, true), (0, true), (1, true), (0, true), (0, true), (0, true), (70, true), (0, true), (0, true), (1, true), (0, true), (0, true), (0, true)] (sR m g 228)) = some (T [inw m.pc && true, rg (w16 (m.pc + 1)), bl (ix (w16 (m.pc + 1))), inw m.pc && true, rg (w16 (m.pc + 2)), bl (ix (w16 (m.pc + 2))), inw m.pc && true, !m.fp, inw m.sp && true, inw (w16 (m.sp + -2)) && true, rg (w16 (w16 (m.sp + -2) + 1)), bl (ix (w16 (w16 (m.sp + -2) + 1))), rg (w16 (m.sp + -2)), bl (ix (w16 (m.sp + -2)))], .int .i64 0, 4, hRm { m with pc := w16 (w16 (g (ix (w16 (m.pc + 1)))) + w16 (w16 (g (ix (w16 (m.pc + 2)))) * 256)), sp := w16 (m.sp + -2) } (M2 g (ix (w16 (w16 (m.sp + -2) + 1))) (w8 ((w16 (m.pc + 3)).fdiv 256)) (ix (w16 (m.sp + -2))) (w8 (and16 (w16 (m.pc + 3)) 255)))) := by kernel_rfl
theorem re4_1 : endsAt [0, 1, 2] (Ly.run ctx3 3000 [(3, true), (0, true), (0, true), (1, true), (0, true), (0, true), (0, true), (70, false)] (sR m g 228)) = some ([(inw m.pc && true, true), (rg (w16 (m.pc + 1)), true), (bl (ix (w16 (m.pc + 1))), true), (inw m.pc && true, true), (rg (w16 (m.pc + 2)), true), (bl (ix (w16 (m.pc + 2))), true), (inw m.pc && true, true), (!m.fp, false)], .int .i64 0, 4, hRm { m with pc := w16 (m.pc + 3) } (memL g)) := by kernel_rfl
theorem oe4 (hm : m.Ok) (hg : ∀ e, B8 (g e)) (hh : m.halt = false) (h0 : g (ix m.pc) = 228) : Both m g := by
  obtain ⟨r0, r1, r2, r3, r4, r5, r7, sp, pc⟩ := id hm
  cases hf : m.fp
  · exact join (m' := { m with pc := or16 (w16 (or16 0 (w16 (g (at1 m.pc 2))) * 256)) (w16 (g (at1 m.pc 1))), sp := w16 (m.sp - 2) }) (g' := (upd (upd g (ix (w16 (m.sp - 2))) (w8 (w16 (m.pc + 3)))) (ix (w16 (w16 (m.sp - 2) + 1))) (w8 ((w16 (m.pc + 3)).fdiv 256)))) hm hh h0 (pe4_0 m g _ _) (re4_0 m g) (by simp [*]) (by simp [*]) (by decide) (by decide) (eP (m2s rfl rfl rfl rfl)) (eR (by simp [*]) (m2c (by simp [*]) (by simp [*]) (by simp [*]) (by simp [*]) (by simp [*]))) (by constructor <;> simp [*]) (upd_b8 (upd_b8 hg (by simp [*])) (by simp [*]))
  · exact joinA (m' := { m with pc := w16 (m.pc + 3) }) hm hh h0 (pe4_1 m g _ _) (re4_1 m g) hg
@[simp] def ze5_0 (m : Mc) : Mc := { m with pc := w16 (m.pc + 1), sp := w16 (m.sp - 2) }
theorem pe5_0 : endsAt [0, 1] (Ly.run ctx3 3000 [(59, true), (0, true), (2, true), (0, true)] (sP m g 229 b1 b2)) = some (T [rg (w16 (m.sp - 2)), bl (ix (w16 (m.sp - 2))), rg (w16 (w16 (m.sp - 2) + 1)), bl (ix (w16 (w16 (m.sp - 2) + 1)))], .int .i64 0, 6, hPm (ze5_0 m) (M2 g (ix (w16 (m.sp - 2))) (w8 (or16 (w16 (w16 m.r4 * 256)) (w16 m.r5))) (ix (w16 (w16 (m.sp - 2) + 1))) (w8 ((or16 (w16 (w16 m.r4 * 256)) (w16 m.r5)).fdiv 256)))) := by kernel_rfl
theorem re5_0 : endsAt [0, 1, 2] (Ly.run ctx3 3000 [(4, true), (35, true), (0, true), (0, true), (1, true), (0, true), (0, true), (0, true)] (sR m g 229)) = some (T [inw m.pc && true, inb m.r4 && inb m.r5, inw m.sp && true, inw (w16 (m.sp + -2)) && true, rg (w16 (w16 (m.sp + -2) + 1)), bl (ix (w16 (w16 (m.sp + -2) + 1))), rg (w16 (m.sp + -2)), bl (ix (w16 (m.sp + -2)))], .int .i64 0, 3, hRm { m with pc := w16 (m.pc + 1), sp := w16 (m.sp + -2) } (M2 g (ix (w16 (w16 (m.sp + -2) + 1))) (w8 ((256 * m.r4 + m.r5).fdiv 256)) (ix (w16 (m.sp + -2))) (w8 (and16 (256 * m.r4 + m.r5) 255)))) := by kernel_rfl
theorem oe5 (hm : m.Ok) (hg : ∀ e, B8 (g e)) (hh : m.halt = false) (h0 : g (ix m.pc) = 229) : Both m g := by
  obtain ⟨r0, r1, r2, r3, r4, r5, r7, sp, pc⟩ := id hm
  exact join (m' := (ze5_0 m)) (g' := (upd (upd g (ix (w16 (m.sp - 2))) (w8 (or16 (w16 (w16 m.r4 * 256)) (w16 m.r5)))) (ix (w16 (w16 (m.sp - 2) + 1))) (w8 ((or16 (w16 (w16 m.r4 * 256)) (w16 m.r5)).fdiv 256)))) hm hh h0 (pe5_0 m g _ _) (re5_0 m g) (by simp [*]) (by simp [*]) (by decide) (by decide) (eP (m2s rfl rfl rfl rfl)) (eR (by simp [*]) (m2c (by simp [*]) (by simp [*]) (by simp [*]) (by simp [*]) (by simp [*]))) (by constructor <;> simp [*]) (upd_b8 (upd_b8 hg (by simp [*])) (by simp [*]))
@[simp] def ze6_0 (m : Mc) (g : Nat → Int) : Mc := { m with fc := false, fp := par (and8 m.r7 (w8 (or16 0 (w16 (g (at1 m.pc 1)))))), fs := decide (128 ≤ and8 m.r7 (w8 (or16 0 (w16 (g (at1 m.pc 1)))))), fx := and8 (or8 m.r7 (w8 (or16 0 (w16 (g (at1 m.pc 1)))))) 8 != 0, fz := and8 m.r7 (w8 (or16 0 (w16 (g (at1 m.pc 1))))) == 0, pc := w16 (m.pc + 2), r7 := and8 m.r7 (w8 (or16 0 (w16 (g (at1 m.pc 1))))) }
@[simp] def ze6_1 (m : Mc) (b1 : Int) : Mc := { m with fc := false, fp := par (and8 m.r7 (w8 (or16 0 (w16 b1)))), fs := decide (128 ≤ and8 m.r7 (w8 (or16 0 (w16 b1)))), fx := and8 (or8 m.r7 (w8 (or16 0 (w16 b1)))) 8 != 0, fz := and8 m.r7 (w8 (or16 0 (w16 b1))) == 0, pc := w16 (m.pc + 2), r7 := and8 m.r7 (w8 (or16 0 (w16 b1))) }
theorem pe6_0 : endsAt [0, 1] (Ly.run ctx3 3000 [(21, true), (8, true)] (sP m g 230 b1 b2)) = some (T [m.fc == true, inb m.r7 && inb (w8 (or16 0 (w16 b1)))], .int .i64 0, 5, hPm (ze6_1 m b1) (memL g)) := by kernel_rfl
theorem pe6_1 : endsAt [0, 1] (Ly.run ctx3 3000 [(21, false), (8, true)] (sP m g 230 b1 b2)) = some ([(m.fc == true, false), (inb m.r7 && inb (w8 (or16 0 (w16 b1))), true)], .int .i64 0, 5, hPm (ze6_1 m b1) (memL g)) := by kernel_rfl
theorem re6_0 : endsAt [0, 1, 2] (Ly.run ctx3 3000 [(3, true), (0, true), (0, true), (1, true), (30, true)] (sR m g 230)) = some (T [inw m.pc && true, rg (w16 (m.pc + 1)), bl (ix (w16 (m.pc + 1))), inw m.pc && true, inb m.r7 && inb (w8 (w16 (g (ix (w16 (m.pc + 1))))))], .int .i64 0, 4, hRm { m with fc := false, fp := par (and8 m.r7 (w8 (w16 (g (ix (w16 (m.pc + 1))))))), fs := decide (128 ≤ and8 m.r7 (w8 (w16 (g (ix (w16 (m.pc + 1))))))), fx := and8 (or8 m.r7 (w8 (w16 (g (ix (w16 (m.pc + 1))))))) 8 != 0, fz := and8 m.r7 (w8 (w16 (g (ix (w16 (m.pc + 1)))))) == 0, pc := w16 (m.pc + 2), r7 := and8 m.r7 (w8 (w16 (g (ix (w16 (m.pc + 1)))))) } (memL g)) := by kernel_rfl
theorem oe6 (hm : m.Ok) (hg : ∀ e, B8 (g e)) (hh : m.halt = false) (h0 : g (ix m.pc) = 230) : Both m g := by
  obtain ⟨r0, r1, r2, r3, r4, r5, r7, sp, pc⟩ := id hm
  cases hf : m.fc
  · exact joinA (m' := (ze6_0 m g)) hm hh h0 (pe6_1 m g _ _) (re6_0 m g) hg
  · exact joinA (m' := (ze6_0 m g)) hm hh h0 (pe6_0 m g _ _) (re6_0 m g) hg
@[simp] def ze7_0 (m : Mc) : Mc := { m with pc := 32, sp := w16 (m.sp - 2) }
theorem pe7_0 : endsAt [0, 1] (Ly.run ctx3 3000 [(44, true), (0, true), (2, true), (0, true)] (sP m g 231 b1 b2)) = some (T [rg (w16 (m.sp - 2)), bl (ix (w16 (m.sp - 2))), rg (w16 (w16 (m.sp - 2) + 1)), bl (ix (w16 (w16 (m.sp - 2) + 1)))], .int .i64 0, 6, hPm (ze7_0 m) (M2 g (ix (w16 (m.sp - 2))) (w8 (w16 (m.pc + 1))) (ix (w16 (w16 (m.sp - 2) + 1))) (w8 ((w16 (m.pc + 1)).fdiv 256)))) := by kernel_rfl
theorem re7_0 : endsAt [0, 1, 2] (Ly.run ctx3 3000 [(4, true), (24, true), (0, true), (1, true), (0, true), (0, true), (0, true)] (sR m g 231)) = some (T [inw m.pc && true, inw m.sp && true, inw (w16 (m.sp + -2)) && true, rg (w16 (w16 (m.sp + -2) + 1)), bl (ix (w16 (w16 (m.sp + -2) + 1))), rg (w16 (m.sp + -2)), bl (ix (w16 (m.sp + -2)))], .int .i64 0, 3, hRm { m with pc := 32, sp := w16 (m.sp + -2) } (M2 g (ix (w16 (w16 (m.sp + -2) + 1))) (w8 ((w16 (m.pc + 1)).fdiv 256)) (ix (w16 (m.sp + -2))) (w8 (and16 (w16 (m.pc + 1)) 255)))) := by kernel_rfl
theorem oe7 (hm : m.Ok) (hg : ∀ e, B8 (g e)) (hh : m.halt = false) (h0 : g (ix m.pc) = 231) : Both m g := by
  obtain ⟨r0, r1, r2, r3, r4, r5, r7, sp, pc⟩ := id hm
  exact join (m' := (ze7_0 m)) (g' := (upd (upd g (ix (w16 (m.sp - 2))) (w8 (w16 (m.pc + 1)))) (ix (w16 (w16 (m.sp - 2) + 1))) (w8 ((w16 (m.pc + 1)).fdiv 256)))) hm hh h0 (pe7_0 m g _ _) (re7_0 m g) (by simp [*]) (by simp [*]) (by decide) (by decide) (eP (m2s rfl rfl rfl rfl)) (eR (by simp [*]) (m2c (by simp [*]) (by simp [*]) (by simp [*]) (by simp [*]) (by simp [*]))) (by constructor <;> simp [*]) (upd_b8 (upd_b8 hg (by simp [*])) (by simp [*]))
@[simp] def ze8_0 (m : Mc) (g : Nat → Int) : Mc := { m with pc := or16 (w16 (g (ix (w16 (w16 (m.sp + 2) - 2))))) (w16 (w16 (g (ix (w16 (w16 (w16 (m.sp + 2) - 2) + 1)))) * 256)), sp := w16 (m.sp + 2) }
theorem pe8_0 : endsAt [0, 1] (Ly.run ctx3 3000 [(43, true), (0, true), (0, true), (0, true), (0, true)] (sP m g 232 b1 b2)) = some (T [m.fp == true, rg (w16 (w16 (m.sp + 2) - 2)), bl (ix (w16 (w16 (m.sp + 2) - 2))), rg (w16 (w16 (w16 (m.sp + 2) - 2) + 1)), bl (ix (w16 (w16 (w16 (m.sp + 2) - 2) + 1)))], .int .i64 0, 6, hPm (ze8_0 m g) (memL g)) := by kernel_rfl
theorem pe8_1 : endsAt [0, 1] (Ly.run ctx3 3000 [(43, false)] (sP m g 232 b1 b2)) = some ([(m.fp == true, false)], .int .i64 0, 6, hPm { m with pc := w16 (m.pc + 1) } (memL g)) := by kernel_rfl
theorem re8_0 : endsAt [0, 1, 2] (Ly.run ctx3 3000 [(4, true), (51, true), (0, true), (0, true), (0, true), (0, true), (0, true), (0, true), (0, true)] (sR m g 232)) = some (T [inw m.pc && true, m.fp, inw m.sp && true, rg (w16 (m.sp + 1)), bl (ix (w16 (m.sp + 1))), rg (m.sp), bl (ix m.sp), inb (g (ix (w16 (m.sp + 1)))) && inb (g (ix m.sp)), inw m.sp && true], .int .i64 0, 4, hRm { m with pc := 256 * g (ix (w16 (m.sp + 1))) + g (ix m.sp), sp := w16 (m.sp + 2) } (memL g)) := by kernel_rfl
theorem re8_1 : endsAt [0, 1, 2] (Ly.run ctx3 3000 [(4, true), (51, false)] (sR m g 232)) = some ([(inw m.pc && true, true), (m.fp, false)], .int .i64 0, 4, hRm { m with pc := w16 (m.pc + 1) } (memL g)) := by kernel_rfl
theorem oe8 (hm : m.Ok) (hg : ∀ e, B8 (g e)) (hh : m.halt = false) (h0 : g (ix m.pc) = 232) : Both m g := by
  obtain ⟨r0, r1, r2, r3, r4, r5, r7, sp, pc⟩ := id hm
  cases hf : m.fp
  · exact joinA (m' := { m with pc := w16 (m.pc + 1) }) hm hh h0 (pe8_1 m g _ _) (re8_1 m g) hg
  · exact joinA (m' := (ze8_0 m g)) hm hh h0 (pe8_0 m g _ _) (re8_0 m g) hg
@[simp] def ze9_0 (m : Mc) : Mc := { m with pc := or16 (w16 (w16 m.r4 * 256)) (w16 m.r5) }
theorem pe9_0 : endsAt [0, 1] (Ly.run ctx3 3000 [] (sP m g 233 b1 b2)) = some (T [], .int .i64 0, 5, hPm (ze9_0 m) (memL g)) := by kernel_rfl
theorem re9_0 : endsAt [0, 1, 2] (Ly.run ctx3 3000 [(4, true), (70, true)] (sR m g 233)) = some (T [inw m.pc && true, inb m.r4 && inb m.r5], .int .i64 0, 3, hRm { m with pc := 256 * m.r4 + m.r5 } (memL g)) := by kernel_rfl
theorem oe9 (hm : m.Ok) (hg : ∀ e, B8 (g e)) (hh : m.halt = false) (h0 : g (ix m.pc) = 233) : Both m g := by
  obtain ⟨r0, r1, r2, r3, r4, r5, r7, sp, pc⟩ := id hm
  exact joinA (m' := (ze9_0 m)) hm hh h0 (pe9_0 m g _ _) (re9_0 m g) hg
theorem pea_0 : endsAt [0, 1] (Ly.run ctx3 3000 [(51, true)] (sP m g 234 b1 b2)) = some (T [m.fp == true], .int .i64 0, 6, hPm { m with pc := or16 (w16 (or16 0 (w16 b2) * 256)) (w16 b1) } (memL g)) := by kernel_rfl
theorem pea_1 : endsAt [0, 1] (Ly.run ctx3 3000 [(51, false)] (sP m g 234 b1 b2)) = some ([(m.fp == true, false)], .int .i64 0, 6, hPm { m with pc := w16 (m.pc + 3) } (memL g)) := by kernel_rfl
theorem rea_0 : endsAt [0, 1, 2] (Ly.run ctx3 3000 [(3, true), (0, true), (0, true), (1, true), (0, true), (0, true), (0, true), (61, true)] (sR m g 234)) = some (T [inw m.pc && true, rg (w16 (m.pc + 1)), bl (ix (w16 (m.pc + 1))), inw m.pc && true, rg (w16 (m.pc + 2)), bl (ix (w16 (m.pc + 2))), inw m.pc && true, m.fp], .int .i64 0, 4, hRm { m with pc := w16 (w16 (g (ix (w16 (m.pc + 1)))) + w16 (w16 (g (ix (w16 (m.pc + 2)))) * 256)) } (memL g)) := by kernel_rfl
theorem rea_1 : endsAt [0, 1, 2] (Ly.run ctx3 3000 [(3, true), (0, true), (0, true), (1, true), (0, true), (0, true), (0, true), (61, false)] (sR m g 234)) = some ([(inw m.pc && true, true), (rg (w16 (m.pc + 1)), true), (bl (ix (w16 (m.pc + 1))), true), (inw m.pc && true, true), (rg (w16 (m.pc + 2)), true), (bl (ix (w16 (m.pc + 2))), true), (inw m.pc && true, true), (m.fp, false)], .int .i64 0, 4, hRm { m with pc := w16 (m.pc + 3) } (memL g)) := by kernel_rfl
theorem oea (hm : m.Ok) (hg : ∀ e, B8 (g e)) (hh : m.halt = false) (h0 : g (ix m.pc) = 234) : Both m g := by
  obtain ⟨r0, r1, r2, r3, r4, r5, r7, sp, pc⟩ := id hm
  cases hf : m.fp
  · exact joinA (m' := { m with pc := w16 (m.pc + 3) }) hm hh h0 (pea_1 m g _ _) (rea_1 m g) hg
  · exact joinA (m' := { m with pc := or16 (w16 (or16 0 (w16 (g (at1 m.pc 2))) * 256)) (w16 (g (at1 m.pc 1))) }) hm hh h0 (pea_0 m g _ _) (rea_0 m g) hg
@[simp] def zeb_0 (m : Mc) : Mc := { m with pc := w16 (m.pc + 1), r2 := w8 ((or16 (w16 (w16 m.r4 * 256)) (w16 m.r5)).fdiv 256), r3 := w8 (or16 (w16 (w16 m.r4 * 256)) (w16 m.r5)), r4 := w8 ((or16 (w16 (w16 m.r2 * 256)) (w16 m.r3)).fdiv 256), r5 := w8 (or16 (w16 (w16 m.r2 * 256)) (w16 m.r3)) }
theorem peb_0 : endsAt [0, 1] (Ly.run ctx3 3000 [] (sP m g 235 b1 b2)) = some (T [], .int .i64 0, 5, hPm (zeb_0 m) (memL g)) := by kernel_rfl
theorem reb_0 : endsAt [0, 1, 2] (Ly.run ctx3 3000 [(4, true), (70, true), (12, true)] (sR m g 235)) = some (T [inw m.pc && true, inb m.r4 && inb m.r5, inb m.r2 && inb m.r3], .int .i64 0, 3, hRm { m with pc := w16 (m.pc + 1), r2 := w8 ((256 * m.r4 + m.r5).fdiv 256), r3 := w8 (and16 (256 * m.r4 + m.r5) 255), r4 := w8 ((256 * m.r2 + m.r3).fdiv 256), r5 := w8 (and16 (256 * m.r2 + m.r3) 255) } (memL g)) := by kernel_rfl
theorem oeb (hm : m.Ok) (hg : ∀ e, B8 (g e)) (hh : m.halt = false) (h0 : g (ix m.pc) = 235) : Both m g := by
  obtain ⟨r0, r1, r2, r3, r4, r5, r7, sp, pc⟩ := id hm
  exact joinA (m' := (zeb_0 m)) hm hh h0 (peb_0 m g _ _) (reb_0 m g) hg
theorem pec_0 : endsAt [0, 1] (Ly.run ctx3 3000 [(53, true), (3, true), (0, true), (2, true), (0, true)] (sP m g 236 b1 b2)) = some (T [m.fp == true, rg (w16 (m.sp - 2)), bl (ix (w16 (m.sp - 2))), rg (w16 (w16 (m.sp - 2) + 1)), bl (ix (w16 (w16 (m.sp - 2) + 1)))], .int .i64 0, 7, hPm { m with pc := or16 (w16 (or16 0 (w16 b2) * 256)) (w16 b1), sp := w16 (m.sp - 2) } (M2 g (ix (w16 (m.sp - 2))) (w8 (w16 (m.pc + 3))) (ix (w16 (w16 (m.sp - 2) + 1))) (w8 ((w16 (m.pc + 3)).fdiv 256)))) := by kernel_rfl
theorem pec_1 : endsAt [0, 1] (Ly.run ctx3 3000 [(53, false)] (sP m g 236 b1 b2)) = some ([(m.fp == true, false)], .int .i64 0, 6, hPm { m with pc := w16 (m.pc + 3) } (memL g)) := by kernel_rfl
theorem rec_0 : endsAt [0, 1, 2] (Ly.run ctx3 3000 [(3, true), (0, true), (0, true), (1, true), (0, true), (0, true), (0, true), (71, true), (0, true), (0, true), (1, true), (0, true), (0, true), (0, true)] (sR m g 236)) = some (T [inw m.pc && true, rg (w16 (m.pc + 1)), bl (ix (w16 (m.pc + 1))), inw m.pc && true, rg (w16 (m.pc + 2)), bl (ix (w16 (m.pc + 2))), inw m.pc && true, m.fp, inw m.sp && true, inw (w16 (m.sp + -2)) && true, rg (w16 (w16 (m.sp + -2) + 1)), bl (ix (w16 (w16 (m.sp + -2) + 1))), rg (w16 (m.sp + -2)), bl (ix (w16 (m.sp + -2)))], .int .i64 0, 4, hRm { m with pc := w16 (w16 (g (ix (w16 (m.pc + 1)))) + w16 (w16 (g (ix (w16 (m.pc + 2)))) * 256)), sp := w16 (m.sp + -2) } (M2 g (ix (w16 (w16 (m.sp + -2) + 1))) (w8 ((w16 (m.pc + 3)).fdiv 256)) (ix (w16 (m.sp + -2))) (w8 (and16 (w16 (m.pc + 3)) 255)))) := by kernel_rfl
theorem rec_1 : endsAt [0, 1, 2] (Ly.run ctx3 3000 [(3, true), (0, true), (0, true), (1, true), (0, true), (0, true), (0, true), (71, false)] (sR m g 236)) = some ([(inw m.pc && true, true), (rg (w16 (m.pc + 1)), true), (bl (ix (w16 (m.pc + 1))), true), (inw m.pc && true, true), (rg (w16 (m.pc + 2)), true), (bl (ix (w16 (m.pc + 2))), true), (inw m.pc && true, true), (m.fp, false)], .int .i64 0, 4, hRm { m with pc := w16 (m.pc + 3) } (memL g)) := by kernel_rfl
theorem oec (hm : m.Ok) (hg : ∀ e, B8 (g e)) (hh : m.halt = false) (h0 : g (ix m.pc) = 236) : Both m g := by
  obtain ⟨r0, r1, r2, r3, r4, r5, r7, sp, pc⟩ := id hm
  cases hf : m.fp
  · exact joinA (m' := { m with pc := w16 (m.pc + 3) }) hm hh h0 (pec_1 m g _ _) (rec_1 m g) hg
  · exact join (m' := { m with pc := or16 (w16 (or16 0 (w16 (g (at1 m.pc 2))) * 256)) (w16 (g (at1 m.pc 1))), sp := w16 (m.sp - 2) }) (g' := (upd (upd g (ix (w16 (m.sp - 2))) (w8 (w16 (m.pc + 3)))) (ix (w16 (w16 (m.sp - 2) + 1))) (w8 ((w16 (m.pc + 3)).fdiv 256)))) hm hh h0 (pec_0 m g _ _) (rec_0 m g) (by simp [*]) (by simp [*]) (by decide) (by decide) (eP (m2s rfl rfl rfl rfl)) (eR (by simp [*]) (m2c (by simp [*]) (by simp [*]) (by simp [*]) (by simp [*]) (by simp [*]))) (by constructor <;> simp [*]) (upd_b8 (upd_b8 hg (by simp [*])) (by simp [*]))
theorem ped_0 : endsAt [0, 1] (Ly.run ctx3 3000 [] (sP m g 237 b1 b2)) = some (T [], .int .i64 8, 5, hPm m (memL g)) := by kernel_rfl
theorem red_0 : endsAt [0, 1, 2] (Ly.run ctx3 3000 [] (sR m g 237)) = some (T [], .int .i64 8, 3, hRm m (memL g)) := by kernel_rfl
theorem oed (hm : m.Ok) (hg : ∀ e, B8 (g e)) (hh : m.halt = false) (h0 : g (ix m.pc) = 237) : Both m g := by
  obtain ⟨r0, r1, r2, r3, r4, r5, r7, sp, pc⟩ := id hm
  exact join (m' := m) (g' := g) hm hh h0 (ped_0 m g _ _) (red_0 m g) (by simp [*]) (by simp [*]) (by decide) (by decide) (eP (.inl rfl)) (eR rfl (.inl rfl)) (by constructor <;> simp [*]) hg
@[simp] def zee_0 (m : Mc) (g : Nat → Int) : Mc := { m with fc := false, fp := par (xor8 m.r7 (w8 (or16 0 (w16 (g (at1 m.pc 1)))))), fs := decide (128 ≤ xor8 m.r7 (w8 (or16 0 (w16 (g (at1 m.pc 1)))))), fx := false, fz := xor8 m.r7 (w8 (or16 0 (w16 (g (at1 m.pc 1))))) == 0, pc := w16 (m.pc + 2), r7 := xor8 m.r7 (w8 (or16 0 (w16 (g (at1 m.pc 1))))) }
@[simp] def zee_1 (m : Mc) (b1 : Int) : Mc := { m with fc := false, fp := par (xor8 m.r7 (w8 (or16 0 (w16 b1)))), fs := decide (128 ≤ xor8 m.r7 (w8 (or16 0 (w16 b1)))), fx := false, fz := xor8 m.r7 (w8 (or16 0 (w16 b1))) == 0, pc := w16 (m.pc + 2), r7 := xor8 m.r7 (w8 (or16 0 (w16 b1))) }
theorem pee_0 : endsAt [0, 1] (Ly.run ctx3 3000 [(21, true), (9, true)] (sP m g 238 b1 b2)) = some (T [m.fc == true, inb m.r7 && inb (w8 (or16 0 (w16 b1)))], .int .i64 0, 5, hPm (zee_1 m b1) (memL g)) := by kernel_rfl
theorem pee_1 : endsAt [0, 1] (Ly.run ctx3 3000 [(21, false), (9, true)] (sP m g 238 b1 b2)) = some ([(m.fc == true, false), (inb m.r7 && inb (w8 (or16 0 (w16 b1))), true)], .int .i64 0, 5, hPm (zee_1 m b1) (memL g)) := by kernel_rfl
theorem ree_0 : endsAt [0, 1, 2] (Ly.run ctx3 3000 [(3, true), (0, true), (0, true), (1, true), (31, true)] (sR m g 238)) = some (T [inw m.pc && true, rg (w16 (m.pc + 1)), bl (ix (w16 (m.pc + 1))), inw m.pc && true, inb m.r7 && inb (w8 (w16 (g (ix (w16 (m.pc + 1))))))], .int .i64 0, 4, hRm { m with fc := false, fp := par (xor8 m.r7 (w8 (w16 (g (ix (w16 (m.pc + 1))))))), fs := decide (128 ≤ xor8 m.r7 (w8 (w16 (g (ix (w16 (m.pc + 1))))))), fx := false, fz := xor8 m.r7 (w8 (w16 (g (ix (w16 (m.pc + 1)))))) == 0, pc := w16 (m.pc + 2), r7 := xor8 m.r7 (w8 (w16 (g (ix (w16 (m.pc + 1)))))) } (memL g)) := by kernel_rfl
theorem oee (hm : m.Ok) (hg : ∀ e, B8 (g e)) (hh : m.halt = false) (h0 : g (ix m.pc) = 238) : Both m g := by
  obtain ⟨r0, r1, r2, r3, r4, r5, r7, sp, pc⟩ := id hm
  cases hf : m.fc
  · exact joinA (m' := (zee_0 m g)) hm hh h0 (pee_1 m g _ _) (ree_0 m g) hg
  · exact joinA (m' := (zee_0 m g)) hm hh h0 (pee_0 m g _ _) (ree_0 m g) hg
@[simp] def zef_0 (m : Mc) : Mc := { m with pc := 40, sp := w16 (m.sp - 2) }
theorem pef_0 : endsAt [0, 1] (Ly.run ctx3 3000 [(44, true), (0, true), (2, true), (0, true)] (sP m g 239 b1 b2)) = some (T [rg (w16 (m.sp - 2)), bl (ix (w16 (m.sp - 2))), rg (w16 (w16 (m.sp - 2) + 1)), bl (ix (w16 (w16 (m.sp - 2) + 1)))], .int .i64 0, 6, hPm (zef_0 m) (M2 g (ix (w16 (m.sp - 2))) (w8 (w16 (m.pc + 1))) (ix (w16 (w16 (m.sp - 2) + 1))) (w8 ((w16 (m.pc + 1)).fdiv 256)))) := by kernel_rfl
theorem ref_0 : endsAt [0, 1, 2] (Ly.run ctx3 3000 [(4, true), (24, true), (0, true), (1, true), (0, true), (0, true), (0, true)] (sR m g 239)) = some (T [inw m.pc && true, inw m.sp && true, inw (w16 (m.sp + -2)) && true, rg (w16 (w16 (m.sp + -2) + 1)), bl (ix (w16 (w16 (m.sp + -2) + 1))), rg (w16 (m.sp + -2)), bl (ix (w16 (m.sp + -2)))], .int .i64 0, 3, hRm { m with pc := 40, sp := w16 (m.sp + -2) } (M2 g (ix (w16 (w16 (m.sp + -2) + 1))) (w8 ((w16 (m.pc + 1)).fdiv 256)) (ix (w16 (m.sp + -2))) (w8 (and16 (w16 (m.pc + 1)) 255)))) := by kernel_rfl
theorem oef (hm : m.Ok) (hg : ∀ e, B8 (g e)) (hh : m.halt = false) (h0 : g (ix m.pc) = 239) : Both m g := by
  obtain ⟨r0, r1, r2, r3, r4, r5, r7, sp, pc⟩ := id hm
  exact join (m' := (zef_0 m)) (g' := (upd (upd g (ix (w16 (m.sp - 2))) (w8 (w16 (m.pc + 1)))) (ix (w16 (w16 (m.sp - 2) + 1))) (w8 ((w16 (m.pc + 1)).fdiv 256)))) hm hh h0 (pef_0 m g _ _) (ref_0 m g) (by simp [*]) (by simp [*]) (by decide) (by decide) (eP (m2s rfl rfl rfl rfl)) (eR (by simp [*]) (m2c (by simp [*]) (by simp [*]) (by simp [*]) (by simp [*]) (by simp [*]))) (by constructor <;> simp [*]) (upd_b8 (upd_b8 hg (by simp [*])) (by simp [*]))
theorem blk14 (m : Mc) (g : Nat → Int) (hm : m.Ok) (hg : ∀ e, B8 (g e)) (hh : m.halt = false) (h1 : 224 ≤ g (ix m.pc)) (h2 : g (ix m.pc) < 240) : Both m g := by
  have h : g (ix m.pc) = 224 ∨ g (ix m.pc) = 225 ∨ g (ix m.pc) = 226 ∨ g (ix m.pc) = 227 ∨ g (ix m.pc) = 228 ∨ g (ix m.pc) = 229 ∨ g (ix m.pc) = 230 ∨ g (ix m.pc) = 231 ∨ g (ix m.pc) = 232 ∨ g (ix m.pc) = 233 ∨ g (ix m.pc) = 234 ∨ g (ix m.pc) = 235 ∨ g (ix m.pc) = 236 ∨ g (ix m.pc) = 237 ∨ g (ix m.pc) = 238 ∨ g (ix m.pc) = 239 := by omega
  rcases h with h | h | h | h | h | h | h | h | h | h | h | h | h | h | h | h
  · exact oe0 m g hm hg hh h
  · exact oe1 m g hm hg hh h
  · exact oe2 m g hm hg hh h
  · exact oe3 m g hm hg hh h
  · exact oe4 m g hm hg hh h
  · exact oe5 m g hm hg hh h
  · exact oe6 m g hm hg hh h
  · exact oe7 m g hm hg hh h
  · exact oe8 m g hm hg hh h
  · exact oe9 m g hm hg hh h
  · exact oea m g hm hg hh h
  · exact oeb m g hm hg hh h
  · exact oec m g hm hg hh h
  · exact oed m g hm hg hh h
  · exact oee m g hm hg hh h
  · exact oef m g hm hg hh h
end Go.Proofs.Ytpggoincnebfnaa
end
