/- Part 10 of the texts that the law needs, laid together. By program (pack.py). -/
import Derived.Test.YtpggoincnebfnaaPag
import Derived.KernelRfl
set_option linter.unusedVariables false
set_option linter.unusedSimpArgs false
noncomputable section
namespace Go.Proofs.Ytpggoincnebfnaa
open Go Go.Ly Go.RowKit
variable (m : Mc) (g : Nat → Int) (b1 b2 : Int)
@[simp] def z80_0 (m : Mc) : Mc := { m with fc := decide (255 < m.r7 + m.r0 + 0), fp := par ((m.r7 + m.r0 + 0) % 256), fs := decide (128 ≤ (m.r7 + m.r0 + 0) % 256), fx := decide (15 < m.r7 % 16 + m.r0 % 16 + 0), fz := (m.r7 + m.r0 + 0) % 256 == 0, pc := w16 (m.pc + 1), r7 := (m.r7 + m.r0 + 0) % 256 }
theorem p80_0 : endsAt [0, 1] (Ly.run ctx3 3000 [(22, true), (5, true)] (sP m g 128 b1 b2)) = some (T [m.fc == true, inb m.r7 && inb m.r0], .int .i64 0, 5, hPm (z80_0 m) (memL g)) := by kernel_rfl
theorem p80_1 : endsAt [0, 1] (Ly.run ctx3 3000 [(22, false), (5, true)] (sP m g 128 b1 b2)) = some ([(m.fc == true, false), (inb m.r7 && inb m.r0, true)], .int .i64 0, 5, hPm (z80_0 m) (memL g)) := by kernel_rfl
theorem r80_0 : endsAt [0, 1, 2] (Ly.run ctx3 3000 [(4, true), (16, true)] (sR m g 128)) = some (T [inw m.pc && true, inb m.r7 && inb m.r0], .int .i64 0, 4, hRm (z80_0 m) (memL g)) := by kernel_rfl
theorem o80 (hm : m.Ok) (hg : ∀ e, B8 (g e)) (hh : m.halt = false) (h0 : g (ix m.pc) = 128) : Both m g := by
  obtain ⟨r0, r1, r2, r3, r4, r5, r7, sp, pc⟩ := id hm
  cases hf : m.fc
  · exact joinA (m' := (z80_0 m)) hm hh h0 (p80_1 m g _ _) (r80_0 m g) hg
  · exact joinA (m' := (z80_0 m)) hm hh h0 (p80_0 m g _ _) (r80_0 m g) hg
@[simp] def z81_0 (m : Mc) : Mc := { m with fc := decide (255 < m.r7 + m.r1 + 0), fp := par ((m.r7 + m.r1 + 0) % 256), fs := decide (128 ≤ (m.r7 + m.r1 + 0) % 256), fx := decide (15 < m.r7 % 16 + m.r1 % 16 + 0), fz := (m.r7 + m.r1 + 0) % 256 == 0, pc := w16 (m.pc + 1), r7 := (m.r7 + m.r1 + 0) % 256 }
theorem p81_0 : endsAt [0, 1] (Ly.run ctx3 3000 [(22, true), (5, true)] (sP m g 129 b1 b2)) = some (T [m.fc == true, inb m.r7 && inb m.r1], .int .i64 0, 5, hPm (z81_0 m) (memL g)) := by kernel_rfl
theorem p81_1 : endsAt [0, 1] (Ly.run ctx3 3000 [(22, false), (5, true)] (sP m g 129 b1 b2)) = some ([(m.fc == true, false), (inb m.r7 && inb m.r1, true)], .int .i64 0, 5, hPm (z81_0 m) (memL g)) := by kernel_rfl
theorem r81_0 : endsAt [0, 1, 2] (Ly.run ctx3 3000 [(4, true), (16, true)] (sR m g 129)) = some (T [inw m.pc && true, inb m.r7 && inb m.r1], .int .i64 0, 4, hRm (z81_0 m) (memL g)) := by kernel_rfl
theorem o81 (hm : m.Ok) (hg : ∀ e, B8 (g e)) (hh : m.halt = false) (h0 : g (ix m.pc) = 129) : Both m g := by
  obtain ⟨r0, r1, r2, r3, r4, r5, r7, sp, pc⟩ := id hm
  cases hf : m.fc
  · exact joinA (m' := (z81_0 m)) hm hh h0 (p81_1 m g _ _) (r81_0 m g) hg
  · exact joinA (m' := (z81_0 m)) hm hh h0 (p81_0 m g _ _) (r81_0 m g) hg
@[simp] def z82_0 (m : Mc) : Mc := { m with fc := decide (255 < m.r7 + m.r2 + 0), fp := par ((m.r7 + m.r2 + 0) % 256), fs := decide (128 ≤ (m.r7 + m.r2 + 0) % 256), fx := decide (15 < m.r7 % 16 + m.r2 % 16 + 0), fz := (m.r7 + m.r2 + 0) % 256 == 0, pc := w16 (m.pc + 1), r7 := (m.r7 + m.r2 + 0) % 256 }
theorem p82_0 : endsAt [0, 1] (Ly.run ctx3 3000 [(22, true), (5, true)] (sP m g 130 b1 b2)) = some (T [m.fc == true, inb m.r7 && inb m.r2], .int .i64 0, 5, hPm (z82_0 m) (memL g)) := by kernel_rfl
theorem p82_1 : endsAt [0, 1] (Ly.run ctx3 3000 [(22, false), (5, true)] (sP m g 130 b1 b2)) = some ([(m.fc == true, false), (inb m.r7 && inb m.r2, true)], .int .i64 0, 5, hPm (z82_0 m) (memL g)) := by kernel_rfl
theorem r82_0 : endsAt [0, 1, 2] (Ly.run ctx3 3000 [(4, true), (16, true)] (sR m g 130)) = some (T [inw m.pc && true, inb m.r7 && inb m.r2], .int .i64 0, 4, hRm (z82_0 m) (memL g)) := by kernel_rfl
theorem o82 (hm : m.Ok) (hg : ∀ e, B8 (g e)) (hh : m.halt = false) (h0 : g (ix m.pc) = 130) : Both m g := by
  obtain ⟨r0, r1, r2, r3, r4, r5, r7, sp, pc⟩ := id hm
  cases hf : m.fc
  · exact joinA (m' := (z82_0 m)) hm hh h0 (p82_1 m g _ _) (r82_0 m g) hg
  · exact joinA (m' := (z82_0 m)) hm hh h0 (p82_0 m g _ _) (r82_0 m g) hg
@[simp] def z83_0 (m : Mc) : Mc := { m with fc := decide (255 < m.r7 + m.r3 + 0), fp := par ((m.r7 + m.r3 + 0) % 256), fs := decide (128 ≤ (m.r7 + m.r3 + 0) % 256), fx := decide (15 < m.r7 % 16 + m.r3 % 16 + 0), fz := (m.r7 + m.r3 + 0) % 256 == 0, pc := w16 (m.pc + 1), r7 := (m.r7 + m.r3 + 0) % 256 }
theorem p83_0 : endsAt [0, 1] (Ly.run ctx3 3000 [(22, true), (5, true)] (sP m g 131 b1 b2)) = some (T [m.fc == true, inb m.r7 && inb m.r3], .int .i64 0, 5, hPm (z83_0 m) (memL g)) := by kernel_rfl
theorem p83_1 : endsAt [0, 1] (Ly.run ctx3 3000 [(22, false), (5, true)] (sP m g 131 b1 b2)) = some ([(m.fc == true, false), (inb m.r7 && inb m.r3, true)], .int .i64 0, 5, hPm (z83_0 m) (memL g)) := by kernel_rfl
theorem r83_0 : endsAt [0, 1, 2] (Ly.run ctx3 3000 [(4, true), (16, true)] (sR m g 131)) = some (T [inw m.pc && true, inb m.r7 && inb m.r3], .int .i64 0, 4, hRm (z83_0 m) (memL g)) := by kernel_rfl
theorem o83 (hm : m.Ok) (hg : ∀ e, B8 (g e)) (hh : m.halt = false) (h0 : g (ix m.pc) = 131) : Both m g := by
  obtain ⟨r0, r1, r2, r3, r4, r5, r7, sp, pc⟩ := id hm
  cases hf : m.fc
  · exact joinA (m' := (z83_0 m)) hm hh h0 (p83_1 m g _ _) (r83_0 m g) hg
  · exact joinA (m' := (z83_0 m)) hm hh h0 (p83_0 m g _ _) (r83_0 m g) hg
@[simp] def z84_0 (m : Mc) : Mc := { m with fc := decide (255 < m.r7 + m.r4 + 0), fp := par ((m.r7 + m.r4 + 0) % 256), fs := decide (128 ≤ (m.r7 + m.r4 + 0) % 256), fx := decide (15 < m.r7 % 16 + m.r4 % 16 + 0), fz := (m.r7 + m.r4 + 0) % 256 == 0, pc := w16 (m.pc + 1), r7 := (m.r7 + m.r4 + 0) % 256 }
theorem p84_0 : endsAt [0, 1] (Ly.run ctx3 3000 [(22, true), (5, true)] (sP m g 132 b1 b2)) = some (T [m.fc == true, inb m.r7 && inb m.r4], .int .i64 0, 5, hPm (z84_0 m) (memL g)) := by kernel_rfl
theorem p84_1 : endsAt [0, 1] (Ly.run ctx3 3000 [(22, false), (5, true)] (sP m g 132 b1 b2)) = some ([(m.fc == true, false), (inb m.r7 && inb m.r4, true)], .int .i64 0, 5, hPm (z84_0 m) (memL g)) := by kernel_rfl
theorem r84_0 : endsAt [0, 1, 2] (Ly.run ctx3 3000 [(4, true), (16, true)] (sR m g 132)) = some (T [inw m.pc && true, inb m.r7 && inb m.r4], .int .i64 0, 4, hRm (z84_0 m) (memL g)) := by kernel_rfl
theorem o84 (hm : m.Ok) (hg : ∀ e, B8 (g e)) (hh : m.halt = false) (h0 : g (ix m.pc) = 132) : Both m g := by
  obtain ⟨r0, r1, r2, r3, r4, r5, r7, sp, pc⟩ := id hm
  cases hf : m.fc
  · exact joinA (m' := (z84_0 m)) hm hh h0 (p84_1 m g _ _) (r84_0 m g) hg
  · exact joinA (m' := (z84_0 m)) hm hh h0 (p84_0 m g _ _) (r84_0 m g) hg
@[simp] def z85_0 (m : Mc) : Mc := { m with fc := decide (255 < m.r7 + m.r5 + 0), fp := par ((m.r7 + m.r5 + 0) % 256), fs := decide (128 ≤ (m.r7 + m.r5 + 0) % 256), fx := decide (15 < m.r7 % 16 + m.r5 % 16 + 0), fz := (m.r7 + m.r5 + 0) % 256 == 0, pc := w16 (m.pc + 1), r7 := (m.r7 + m.r5 + 0) % 256 }
theorem p85_0 : endsAt [0, 1] (Ly.run ctx3 3000 [(22, true), (5, true)] (sP m g 133 b1 b2)) = some (T [m.fc == true, inb m.r7 && inb m.r5], .int .i64 0, 5, hPm (z85_0 m) (memL g)) := by kernel_rfl
theorem p85_1 : endsAt [0, 1] (Ly.run ctx3 3000 [(22, false), (5, true)] (sP m g 133 b1 b2)) = some ([(m.fc == true, false), (inb m.r7 && inb m.r5, true)], .int .i64 0, 5, hPm (z85_0 m) (memL g)) := by kernel_rfl
theorem r85_0 : endsAt [0, 1, 2] (Ly.run ctx3 3000 [(4, true), (16, true)] (sR m g 133)) = some (T [inw m.pc && true, inb m.r7 && inb m.r5], .int .i64 0, 4, hRm (z85_0 m) (memL g)) := by kernel_rfl
theorem o85 (hm : m.Ok) (hg : ∀ e, B8 (g e)) (hh : m.halt = false) (h0 : g (ix m.pc) = 133) : Both m g := by
  obtain ⟨r0, r1, r2, r3, r4, r5, r7, sp, pc⟩ := id hm
  cases hf : m.fc
  · exact joinA (m' := (z85_0 m)) hm hh h0 (p85_1 m g _ _) (r85_0 m g) hg
  · exact joinA (m' := (z85_0 m)) hm hh h0 (p85_0 m g _ _) (r85_0 m g) hg
@[simp] def z86_0 (m : Mc) (g : Nat → Int) : Mc := { m with fc := decide (255 < m.r7 + g (ix (or16 (w16 (w16 m.r4 * 256)) (w16 m.r5))) + 0), fp := par ((m.r7 + g (ix (or16 (w16 (w16 m.r4 * 256)) (w16 m.r5))) + 0) % 256), fs := decide (128 ≤ (m.r7 + g (ix (or16 (w16 (w16 m.r4 * 256)) (w16 m.r5))) + 0) % 256), fx := decide (15 < m.r7 % 16 + g (ix (or16 (w16 (w16 m.r4 * 256)) (w16 m.r5))) % 16 + 0), fz := (m.r7 + g (ix (or16 (w16 (w16 m.r4 * 256)) (w16 m.r5))) + 0) % 256 == 0, pc := w16 (m.pc + 1), r7 := (m.r7 + g (ix (or16 (w16 (w16 m.r4 * 256)) (w16 m.r5))) + 0) % 256 }
theorem p86_0 : endsAt [0, 1] (Ly.run ctx3 3000 [(28, true), (0, true), (13, true), (0, true), (1, true), (5, true)] (sP m g 134 b1 b2)) = some (T [(true && lt16 (or16 (w16 (w16 m.r4 * 256)) (w16 m.r5))), bl (ix (or16 (w16 (w16 m.r4 * 256)) (w16 m.r5))), (true && lt16 (or16 (w16 (w16 m.r4 * 256)) (w16 m.r5))), bl (ix (or16 (w16 (w16 m.r4 * 256)) (w16 m.r5))), m.fc == true, inb m.r7 && inb (g (ix (or16 (w16 (w16 m.r4 * 256)) (w16 m.r5))))], .int .i64 0, 5, hPm (z86_0 m g) (memL g)) := by kernel_rfl
theorem p86_1 : endsAt [0, 1] (Ly.run ctx3 3000 [(28, true), (0, true), (13, true), (0, true), (1, false), (5, true)] (sP m g 134 b1 b2)) = some ([((true && lt16 (or16 (w16 (w16 m.r4 * 256)) (w16 m.r5))), true), (bl (ix (or16 (w16 (w16 m.r4 * 256)) (w16 m.r5))), true), ((true && lt16 (or16 (w16 (w16 m.r4 * 256)) (w16 m.r5))), true), (bl (ix (or16 (w16 (w16 m.r4 * 256)) (w16 m.r5))), true), (m.fc == true, false), (inb m.r7 && inb (g (ix (or16 (w16 (w16 m.r4 * 256)) (w16 m.r5)))), true)], .int .i64 0, 5, hPm (z86_0 m g) (memL g)) := by kernel_rfl
theorem r86_0 : endsAt [0, 1, 2] (Ly.run ctx3 3000 [(4, true), (12, true), (0, true), (0, true), (9, true)] (sR m g 134)) = some (T [inw m.pc && true, inb m.r4 && inb m.r5, rg (256 * m.r4 + m.r5), bl (ix (256 * m.r4 + m.r5)), inb m.r7 && inb (g (ix (256 * m.r4 + m.r5)))], .int .i64 0, 4, hRm { m with fc := decide (255 < m.r7 + g (ix (256 * m.r4 + m.r5)) + 0), fp := par ((m.r7 + g (ix (256 * m.r4 + m.r5)) + 0) % 256), fs := decide (128 ≤ (m.r7 + g (ix (256 * m.r4 + m.r5)) + 0) % 256), fx := decide (15 < m.r7 % 16 + g (ix (256 * m.r4 + m.r5)) % 16 + 0), fz := (m.r7 + g (ix (256 * m.r4 + m.r5)) + 0) % 256 == 0, pc := w16 (m.pc + 1), r7 := (m.r7 + g (ix (256 * m.r4 + m.r5)) + 0) % 256 } (memL g)) := by kernel_rfl
theorem o86 (hm : m.Ok) (hg : ∀ e, B8 (g e)) (hh : m.halt = false) (h0 : g (ix m.pc) = 134) : Both m g := by
  obtain ⟨r0, r1, r2, r3, r4, r5, r7, sp, pc⟩ := id hm
  cases hf : m.fc
  · exact joinA (m' := (z86_0 m g)) hm hh h0 (p86_1 m g _ _) (r86_0 m g) hg
  · exact joinA (m' := (z86_0 m g)) hm hh h0 (p86_0 m g _ _) (r86_0 m g) hg
@[simp] def z87_0 (m : Mc) : Mc := { m with fc := decide (255 < m.r7 + m.r7 + 0), fp := par ((m.r7 + m.r7 + 0) % 256), fs := decide (128 ≤ (m.r7 + m.r7 + 0) % 256), fx := decide (15 < m.r7 % 16 + m.r7 % 16 + 0), fz := (m.r7 + m.r7 + 0) % 256 == 0, pc := w16 (m.pc + 1), r7 := (m.r7 + m.r7 + 0) % 256 }
theorem p87_0 : endsAt [0, 1] (Ly.run ctx3 3000 [(22, true), (5, true)] (sP m g 135 b1 b2)) = some (T [m.fc == true, inb m.r7 && inb m.r7], .int .i64 0, 5, hPm (z87_0 m) (memL g)) := by kernel_rfl
theorem p87_1 : endsAt [0, 1] (Ly.run ctx3 3000 [(22, false), (5, true)] (sP m g 135 b1 b2)) = some ([(m.fc == true, false), (inb m.r7 && inb m.r7, true)], .int .i64 0, 5, hPm (z87_0 m) (memL g)) := by kernel_rfl
theorem r87_0 : endsAt [0, 1, 2] (Ly.run ctx3 3000 [(4, true), (16, true)] (sR m g 135)) = some (T [inw m.pc && true, inb m.r7 && inb m.r7], .int .i64 0, 4, hRm (z87_0 m) (memL g)) := by kernel_rfl
theorem o87 (hm : m.Ok) (hg : ∀ e, B8 (g e)) (hh : m.halt = false) (h0 : g (ix m.pc) = 135) : Both m g := by
  obtain ⟨r0, r1, r2, r3, r4, r5, r7, sp, pc⟩ := id hm
  cases hf : m.fc
  · exact joinA (m' := (z87_0 m)) hm hh h0 (p87_1 m g _ _) (r87_0 m g) hg
  · exact joinA (m' := (z87_0 m)) hm hh h0 (p87_0 m g _ _) (r87_0 m g) hg
@[simp] def z88_0 (m : Mc) : Mc := { m with fc := decide (255 < m.r7 + m.r0 + 1), fp := par ((m.r7 + m.r0 + 1) % 256), fs := decide (128 ≤ (m.r7 + m.r0 + 1) % 256), fx := decide (15 < m.r7 % 16 + m.r0 % 16 + 1), fz := (m.r7 + m.r0 + 1) % 256 == 0, pc := w16 (m.pc + 1), r7 := (m.r7 + m.r0 + 1) % 256 }
@[simp] def z88_1 (m : Mc) : Mc := { m with fc := decide (255 < m.r7 + m.r0 + 0), fp := par ((m.r7 + m.r0 + 0) % 256), fs := decide (128 ≤ (m.r7 + m.r0 + 0) % 256), fx := decide (15 < m.r7 % 16 + m.r0 % 16 + 0), fz := (m.r7 + m.r0 + 0) % 256 == 0, pc := w16 (m.pc + 1), r7 := (m.r7 + m.r0 + 0) % 256 }
theorem p88_0 : endsAt [0, 1] (Ly.run ctx3 3000 [(22, true), (5, true)] (sP m g 136 b1 b2)) = some (T [m.fc == true, inb m.r7 && inb m.r0], .int .i64 0, 5, hPm (z88_0 m) (memL g)) := by kernel_rfl
theorem p88_1 : endsAt [0, 1] (Ly.run ctx3 3000 [(22, false), (5, true)] (sP m g 136 b1 b2)) = some ([(m.fc == true, false), (inb m.r7 && inb m.r0, true)], .int .i64 0, 5, hPm (z88_1 m) (memL g)) := by kernel_rfl
theorem r88_0 : endsAt [0, 1, 2] (Ly.run ctx3 3000 [(4, true), (16, true)] (sR m g 136)) = some (T [inw m.pc && true, inb m.r7 && inb m.r0], .int .i64 0, 4, hRm { m with fc := decide (255 < m.r7 + m.r0 + cI m.fc), fp := par ((m.r7 + m.r0 + cI m.fc) % 256), fs := decide (128 ≤ (m.r7 + m.r0 + cI m.fc) % 256), fx := decide (15 < m.r7 % 16 + m.r0 % 16 + cI m.fc), fz := (m.r7 + m.r0 + cI m.fc) % 256 == 0, pc := w16 (m.pc + 1), r7 := (m.r7 + m.r0 + cI m.fc) % 256 } (memL g)) := by kernel_rfl
theorem o88 (hm : m.Ok) (hg : ∀ e, B8 (g e)) (hh : m.halt = false) (h0 : g (ix m.pc) = 136) : Both m g := by
  obtain ⟨r0, r1, r2, r3, r4, r5, r7, sp, pc⟩ := id hm
  cases hf : m.fc
  · exact joinA (m' := (z88_1 m)) hm hh h0 (p88_1 m g _ _) (r88_0 m g) hg
  · exact joinA (m' := (z88_0 m)) hm hh h0 (p88_0 m g _ _) (r88_0 m g) hg
@[simp] def z89_0 (m : Mc) : Mc := { m with fc := decide (255 < m.r7 + m.r1 + 1), fp := par ((m.r7 + m.r1 + 1) % 256), fs := decide (128 ≤ (m.r7 + m.r1 + 1) % 256), fx := decide (15 < m.r7 % 16 + m.r1 % 16 + 1), fz := (m.r7 + m.r1 + 1) % 256 == 0, pc := w16 (m.pc + 1), r7 := (m.r7 + m.r1 + 1) % 256 }
@[simp] def z89_1 (m : Mc) : Mc := { m with fc := decide (255 < m.r7 + m.r1 + 0), fp := par ((m.r7 + m.r1 + 0) % 256), fs := decide (128 ≤ (m.r7 + m.r1 + 0) % 256), fx := decide (15 < m.r7 % 16 + m.r1 % 16 + 0), fz := (m.r7 + m.r1 + 0) % 256 == 0, pc := w16 (m.pc + 1), r7 := (m.r7 + m.r1 + 0) % 256 }
theorem p89_0 : endsAt [0, 1] (Ly.run ctx3 3000 [(22, true), (5, true)] (sP m g 137 b1 b2)) = some (T [m.fc == true, inb m.r7 && inb m.r1], .int .i64 0, 5, hPm (z89_0 m) (memL g)) := by kernel_rfl
theorem p89_1 : endsAt [0, 1] (Ly.run ctx3 3000 [(22, false), (5, true)] (sP m g 137 b1 b2)) = some ([(m.fc == true, false), (inb m.r7 && inb m.r1, true)], .int .i64 0, 5, hPm (z89_1 m) (memL g)) := by kernel_rfl
theorem r89_0 : endsAt [0, 1, 2] (Ly.run ctx3 3000 [(4, true), (16, true)] (sR m g 137)) = some (T [inw m.pc && true, inb m.r7 && inb m.r1], .int .i64 0, 4, hRm { m with fc := decide (255 < m.r7 + m.r1 + cI m.fc), fp := par ((m.r7 + m.r1 + cI m.fc) % 256), fs := decide (128 ≤ (m.r7 + m.r1 + cI m.fc) % 256), fx := decide (15 < m.r7 % 16 + m.r1 % 16 + cI m.fc), fz := (m.r7 + m.r1 + cI m.fc) % 256 == 0, pc := w16 (m.pc + 1), r7 := (m.r7 + m.r1 + cI m.fc) % 256 } (memL g)) := by kernel_rfl
theorem o89 (hm : m.Ok) (hg : ∀ e, B8 (g e)) (hh : m.halt = false) (h0 : g (ix m.pc) = 137) : Both m g := by
  obtain ⟨r0, r1, r2, r3, r4, r5, r7, sp, pc⟩ := id hm
  cases hf : m.fc
  · exact joinA (m' := (z89_1 m)) hm hh h0 (p89_1 m g _ _) (r89_0 m g) hg
  · exact joinA (m' := (z89_0 m)) hm hh h0 (p89_0 m g _ _) (r89_0 m g) hg
@[simp] def z8a_0 (m : Mc) : Mc := { m with fc := decide (255 < m.r7 + m.r2 + 1), fp := par ((m.r7 + m.r2 + 1) % 256), fs := decide (128 ≤ (m.r7 + m.r2 + 1) % 256), fx := decide (15 < m.r7 % 16 + m.r2 % 16 + 1), fz := (m.r7 + m.r2 + 1) % 256 == 0, pc := w16 (m.pc + 1), r7 := (m.r7 + m.r2 + 1) % 256 }
@[simp] def z8a_1 (m : Mc) : Mc := { m with fc := decide (255 < m.r7 + m.r2 + 0), fp := par ((m.r7 + m.r2 + 0) % 256), fs := decide (128 ≤ (m.r7 + m.r2 + 0) % 256), fx := decide (15 < m.r7 % 16 + m.r2 % 16 + 0), fz := (m.r7 + m.r2 + 0) % 256 == 0, pc := w16 (m.pc + 1), r7 := (m.r7 + m.r2 + 0) % 256 }
theorem p8a_0 : endsAt [0, 1] (Ly.run ctx3 3000 [(22, true), (5, true)] (sP m g 138 b1 b2)) = some (T [m.fc == true, inb m.r7 && inb m.r2], .int .i64 0, 5, hPm (z8a_0 m) (memL g)) := by kernel_rfl
theorem p8a_1 : endsAt [0, 1] (Ly.run ctx3 3000 [(22, false), (5, true)] (sP m g 138 b1 b2)) = some ([(m.fc == true, false), (inb m.r7 && inb m.r2, true)], .int .i64 0, 5, hPm (z8a_1 m) (memL g)) := by kernel_rfl
theorem r8a_0 : endsAt [0, 1, 2] (Ly.run ctx3 3000 [(4, true), (16, true)] (sR m g 138)) = some (T [inw m.pc && true, inb m.r7 && inb m.r2], .int .i64 0, 4, hRm { m with fc := decide (255 < m.r7 + m.r2 + cI m.fc), fp := par ((m.r7 + m.r2 + cI m.fc) % 256), fs := decide (128 ≤ (m.r7 + m.r2 + cI m.fc) % 256), fx := decide (15 < m.r7 % 16 + m.r2 % 16 + cI m.fc), fz := (m.r7 + m.r2 + cI m.fc) % 256 == 0, pc := w16 (m.pc + 1), r7 := (m.r7 + m.r2 + cI m.fc) % 256 } (memL g)) := by kernel_rfl
theorem o8a (hm : m.Ok) (hg : ∀ e, B8 (g e)) (hh : m.halt = false) (h0 : g (ix m.pc) = 138) : Both m g := by
  obtain ⟨r0, r1, r2, r3, r4, r5, r7, sp, pc⟩ := id hm
  cases hf : m.fc
  · exact joinA (m' := (z8a_1 m)) hm hh h0 (p8a_1 m g _ _) (r8a_0 m g) hg
  · exact joinA (m' := (z8a_0 m)) hm hh h0 (p8a_0 m g _ _) (r8a_0 m g) hg
@[simp] def z8b_0 (m : Mc) : Mc := { m with fc := decide (255 < m.r7 + m.r3 + 1), fp := par ((m.r7 + m.r3 + 1) % 256), fs := decide (128 ≤ (m.r7 + m.r3 + 1) % 256), fx := decide (15 < m.r7 % 16 + m.r3 % 16 + 1), fz := (m.r7 + m.r3 + 1) % 256 == 0, pc := w16 (m.pc + 1), r7 := (m.r7 + m.r3 + 1) % 256 }
@[simp] def z8b_1 (m : Mc) : Mc := { m with fc := decide (255 < m.r7 + m.r3 + 0), fp := par ((m.r7 + m.r3 + 0) % 256), fs := decide (128 ≤ (m.r7 + m.r3 + 0) % 256), fx := decide (15 < m.r7 % 16 + m.r3 % 16 + 0), fz := (m.r7 + m.r3 + 0) % 256 == 0, pc := w16 (m.pc + 1), r7 := (m.r7 + m.r3 + 0) % 256 }
theorem p8b_0 : endsAt [0, 1] (Ly.run ctx3 3000 [(22, true), (5, true)] (sP m g 139 b1 b2)) = some (T [m.fc == true, inb m.r7 && inb m.r3], .int .i64 0, 5, hPm (z8b_0 m) (memL g)) := by kernel_rfl
theorem p8b_1 : endsAt [0, 1] (Ly.run ctx3 3000 [(22, false), (5, true)] (sP m g 139 b1 b2)) = some ([(m.fc == true, false), (inb m.r7 && inb m.r3, true)], .int .i64 0, 5, hPm (z8b_1 m) (memL g)) := by kernel_rfl
theorem r8b_0 : endsAt [0, 1, 2] (Ly.run ctx3 3000 [(4, true), (16, true)] (sR m g 139)) = some (T [inw m.pc && true, inb m.r7 && inb m.r3], .int .i64 0, 4, hRm { m with fc := decide (255 < m.r7 + m.r3 + cI m.fc), fp := par ((m.r7 + m.r3 + cI m.fc) % 256), fs := decide (128 ≤ (m.r7 + m.r3 + cI m.fc) % 256), fx := decide (15 < m.r7 % 16 + m.r3 % 16 + cI m.fc), fz := (m.r7 + m.r3 + cI m.fc) % 256 == 0, pc := w16 (m.pc + 1), r7 := (m.r7 + m.r3 + cI m.fc) % 256 } (memL g)) := by kernel_rfl
theorem o8b (hm : m.Ok) (hg : ∀ e, B8 (g e)) (hh : m.halt = false) (h0 : g (ix m.pc) = 139) : Both m g := by
  obtain ⟨r0, r1, r2, r3, r4, r5, r7, sp, pc⟩ := id hm
  cases hf : m.fc
  · exact joinA (m' := (z8b_1 m)) hm hh h0 (p8b_1 m g _ _) (r8b_0 m g) hg
  · exact joinA (m' := (z8b_0 m)) hm hh h0 (p8b_0 m g _ _) (r8b_0 m g) hg
@[simp] def z8c_0 (m : Mc) : Mc := { m with fc := decide (255 < m.r7 + m.r4 + 1), fp := par ((m.r7 + m.r4 + 1) % 256), fs := decide (128 ≤ (m.r7 + m.r4 + 1) % 256), fx := decide (15 < m.r7 % 16 + m.r4 % 16 + 1), fz := (m.r7 + m.r4 + 1) % 256 == 0, pc := w16 (m.pc + 1), r7 := (m.r7 + m.r4 + 1) % 256 }
@[simp] def z8c_1 (m : Mc) : Mc := { m with fc := decide (255 < m.r7 + m.r4 + 0), fp := par ((m.r7 + m.r4 + 0) % 256), fs := decide (128 ≤ (m.r7 + m.r4 + 0) % 256), fx := decide (15 < m.r7 % 16 + m.r4 % 16 + 0), fz := (m.r7 + m.r4 + 0) % 256 == 0, pc := w16 (m.pc + 1), r7 := (m.r7 + m.r4 + 0) % 256 }
theorem p8c_0 : endsAt [0, 1] (Ly.run ctx3 3000 [(22, true), (5, true)] (sP m g 140 b1 b2)) = some (T [m.fc == true, inb m.r7 && inb m.r4], .int .i64 0, 5, hPm (z8c_0 m) (memL g)) := by kernel_rfl
theorem p8c_1 : endsAt [0, 1] (Ly.run ctx3 3000 [(22, false), (5, true)] (sP m g 140 b1 b2)) = some ([(m.fc == true, false), (inb m.r7 && inb m.r4, true)], .int .i64 0, 5, hPm (z8c_1 m) (memL g)) := by kernel_rfl
theorem r8c_0 : endsAt [0, 1, 2] (Ly.run ctx3 3000 [(4, true), (16, true)] (sR m g 140)) = some (T [inw m.pc && true, inb m.r7 && inb m.r4], .int .i64 0, 4, hRm { m with fc := decide (255 < m.r7 + m.r4 + cI m.fc), fp := par ((m.r7 + m.r4 + cI m.fc) % 256), fs := decide (128 ≤ (m.r7 + m.r4 + cI m.fc) % 256), fx := decide (15 < m.r7 % 16 + m.r4 % 16 + cI m.fc), fz := (m.r7 + m.r4 + cI m.fc) % 256 == 0, pc := w16 (m.pc + 1), r7 := (m.r7 + m.r4 + cI m.fc) % 256 } (memL g)) := by kernel_rfl
theorem o8c (hm : m.Ok) (hg : ∀ e, B8 (g e)) (hh : m.halt = false) (h0 : g (ix m.pc) = 140) : Both m g := by
  obtain ⟨r0, r1, r2, r3, r4, r5, r7, sp, pc⟩ := id hm
  cases hf : m.fc
  · exact joinA (m' := (z8c_1 m)) hm hh h0 (p8c_1 m g _ _) (r8c_0 m g) hg
  · exact joinA (m' := (z8c_0 m)) hm hh h0 (p8c_0 m g _ _) (r8c_0 m g) hg
@[simp] def z8d_0 (m : Mc) : Mc := { m with fc := decide (255 < m.r7 + m.r5 + 1), fp := par ((m.r7 + m.r5 + 1) % 256), fs := decide (128 ≤ (m.r7 + m.r5 + 1) % 256), fx := decide (15 < m.r7 % 16 + m.r5 % 16 + 1), fz := (m.r7 + m.r5 + 1) % 256 == 0, pc := w16 (m.pc + 1), r7 := (m.r7 + m.r5 + 1) % 256 }
@[simp] def z8d_1 (m : Mc) : Mc := { m with fc := decide (255 < m.r7 + m.r5 + 0), fp := par ((m.r7 + m.r5 + 0) % 256), fs := decide (128 ≤ (m.r7 + m.r5 + 0) % 256), fx := decide (15 < m.r7 % 16 + m.r5 % 16 + 0), fz := (m.r7 + m.r5 + 0) % 256 == 0, pc := w16 (m.pc + 1), r7 := (m.r7 + m.r5 + 0) % 256 }
theorem p8d_0 : endsAt [0, 1] (Ly.run ctx3 3000 [(22, true), (5, true)] (sP m g 141 b1 b2)) = some (T [m.fc == true, inb m.r7 && inb m.r5], .int .i64 0, 5, hPm (z8d_0 m) (memL g)) := by kernel_rfl
theorem p8d_1 : endsAt [0, 1] (Ly.run ctx3 3000 [(22, false), (5, true)] (sP m g 141 b1 b2)) = some ([(m.fc == true, false), (inb m.r7 && inb m.r5, true)], .int .i64 0, 5, hPm (z8d_1 m) (memL g)) := by kernel_rfl
theorem r8d_0 : endsAt [0, 1, 2] (Ly.run ctx3 3000 [(4, true), (16, true)] (sR m g 141)) = some (T [inw m.pc && true, inb m.r7 && inb m.r5], .int .i64 0, 4, hRm { m with fc := decide (255 < m.r7 + m.r5 + cI m.fc), fp := par ((m.r7 + m.r5 + cI m.fc) % 256), fs := decide (128 ≤ (m.r7 + m.r5 + cI m.fc) % 256), fx := decide (15 < m.r7 % 16 + m.r5 % 16 + cI m.fc), fz := (m.r7 + m.r5 + cI m.fc) % 256 == 0, pc := w16 (m.pc + 1), r7 := (m.r7 + m.r5 + cI m.fc) % 256 } (memL g)) := by kernel_rfl
theorem o8d (hm : m.Ok) (hg : ∀ e, B8 (g e)) (hh : m.halt = false) (h0 : g (ix m.pc) = 141) : Both m g := by
  obtain ⟨r0, r1, r2, r3, r4, r5, r7, sp, pc⟩ := id hm
  cases hf : m.fc
  · exact joinA (m' := (z8d_1 m)) hm hh h0 (p8d_1 m g _ _) (r8d_0 m g) hg
  · exact joinA (m' := (z8d_0 m)) hm hh h0 (p8d_0 m g _ _) (r8d_0 m g) hg
@[simp] def z8e_0 (m : Mc) (g : Nat → Int) : Mc := { m with fc := decide (255 < m.r7 + g (ix (or16 (w16 (w16 m.r4 * 256)) (w16 m.r5))) + 1), fp := par ((m.r7 + g (ix (or16 (w16 (w16 m.r4 * 256)) (w16 m.r5))) + 1) % 256), fs := decide (128 ≤ (m.r7 + g (ix (or16 (w16 (w16 m.r4 * 256)) (w16 m.r5))) + 1) % 256), fx := decide (15 < m.r7 % 16 + g (ix (or16 (w16 (w16 m.r4 * 256)) (w16 m.r5))) % 16 + 1), fz := (m.r7 + g (ix (or16 (w16 (w16 m.r4 * 256)) (w16 m.r5))) + 1) % 256 == 0, pc := w16 (m.pc + 1), r7 := (m.r7 + g (ix (or16 (w16 (w16 m.r4 * 256)) (w16 m.r5))) + 1) % 256 }
@[simp] def z8e_1 (m : Mc) (g : Nat → Int) : Mc := { m with fc := decide (255 < m.r7 + g (ix (or16 (w16 (w16 m.r4 * 256)) (w16 m.r5))) + 0), fp := par ((m.r7 + g (ix (or16 (w16 (w16 m.r4 * 256)) (w16 m.r5))) + 0) % 256), fs := decide (128 ≤ (m.r7 + g (ix (or16 (w16 (w16 m.r4 * 256)) (w16 m.r5))) + 0) % 256), fx := decide (15 < m.r7 % 16 + g (ix (or16 (w16 (w16 m.r4 * 256)) (w16 m.r5))) % 16 + 0), fz := (m.r7 + g (ix (or16 (w16 (w16 m.r4 * 256)) (w16 m.r5))) + 0) % 256 == 0, pc := w16 (m.pc + 1), r7 := (m.r7 + g (ix (or16 (w16 (w16 m.r4 * 256)) (w16 m.r5))) + 0) % 256 }
theorem p8e_0 : endsAt [0, 1] (Ly.run ctx3 3000 [(28, true), (0, true), (13, true), (0, true), (1, true), (5, true)] (sP m g 142 b1 b2)) = some (T [(true && lt16 (or16 (w16 (w16 m.r4 * 256)) (w16 m.r5))), bl (ix (or16 (w16 (w16 m.r4 * 256)) (w16 m.r5))), (true && lt16 (or16 (w16 (w16 m.r4 * 256)) (w16 m.r5))), bl (ix (or16 (w16 (w16 m.r4 * 256)) (w16 m.r5))), m.fc == true, inb m.r7 && inb (g (ix (or16 (w16 (w16 m.r4 * 256)) (w16 m.r5))))], .int .i64 0, 5, hPm (z8e_0 m g) (memL g)) := by kernel_rfl
theorem p8e_1 : endsAt [0, 1] (Ly.run ctx3 3000 [(28, true), (0, true), (13, true), (0, true), (1, false), (5, true)] (sP m g 142 b1 b2)) = some ([((true && lt16 (or16 (w16 (w16 m.r4 * 256)) (w16 m.r5))), true), (bl (ix (or16 (w16 (w16 m.r4 * 256)) (w16 m.r5))), true), ((true && lt16 (or16 (w16 (w16 m.r4 * 256)) (w16 m.r5))), true), (bl (ix (or16 (w16 (w16 m.r4 * 256)) (w16 m.r5))), true), (m.fc == true, false), (inb m.r7 && inb (g (ix (or16 (w16 (w16 m.r4 * 256)) (w16 m.r5)))), true)], .int .i64 0, 5, hPm (z8e_1 m g) (memL g)) := by kernel_rfl
theorem r8e_0 : endsAt [0, 1, 2] (Ly.run ctx3 3000 [(4, true), (12, true), (0, true), (0, true), (9, true)] (sR m g 142)) = some (T [inw m.pc && true, inb m.r4 && inb m.r5, rg (256 * m.r4 + m.r5), bl (ix (256 * m.r4 + m.r5)), inb m.r7 && inb (g (ix (256 * m.r4 + m.r5)))], .int .i64 0, 4, hRm { m with fc := decide (255 < m.r7 + g (ix (256 * m.r4 + m.r5)) + cI m.fc), fp := par ((m.r7 + g (ix (256 * m.r4 + m.r5)) + cI m.fc) % 256), fs := decide (128 ≤ (m.r7 + g (ix (256 * m.r4 + m.r5)) + cI m.fc) % 256), fx := decide (15 < m.r7 % 16 + g (ix (256 * m.r4 + m.r5)) % 16 + cI m.fc), fz := (m.r7 + g (ix (256 * m.r4 + m.r5)) + cI m.fc) % 256 == 0, pc := w16 (m.pc + 1), r7 := (m.r7 + g (ix (256 * m.r4 + m.r5)) + cI m.fc) % 256 } (memL g)) := by kernel_rfl
theorem o8e (hm : m.Ok) (hg : ∀ e, B8 (g e)) (hh : m.halt = false) (h0 : g (ix m.pc) = 142) : Both m g := by
  obtain ⟨r0, r1, r2, r3, r4, r5, r7, sp, pc⟩ := id hm
  cases hf : m.fc
  · exact joinA (m' := (z8e_1 m g)) hm hh h0 (p8e_1 m g _ _) (r8e_0 m g) hg
  · exact joinA (m' := (z8e_0 m g)) hm hh h0 (p8e_0 m g _ _) (r8e_0 m g) hg
@[simp] def z8f_0 (m : Mc) : Mc := { m with fc := decide (255 < m.r7 + m.r7 + 1), fp := par ((m.r7 + m.r7 + 1) % 256), fs := decide (128 ≤ (m.r7 + m.r7 + 1) % 256), fx := decide (15 < m.r7 % 16 + m.r7 % 16 + 1), fz := (m.r7 + m.r7 + 1) % 256 == 0, pc := w16 (m.pc + 1), r7 := (m.r7 + m.r7 + 1) % 256 }
@[simp] def z8f_1 (m : Mc) : Mc := { m with fc := decide (255 < m.r7 + m.r7 + 0), fp := par ((m.r7 + m.r7 + 0) % 256), fs := decide (128 ≤ (m.r7 + m.r7 + 0) % 256), fx := decide (15 < m.r7 % 16 + m.r7 % 16 + 0), fz := (m.r7 + m.r7 + 0) % 256 == 0, pc := w16 (m.pc + 1), r7 := (m.r7 + m.r7 + 0) % 256 }
theorem p8f_0 : endsAt [0, 1] (Ly.run ctx3 3000 [(22, true), (5, true)] (sP m g 143 b1 b2)) = some (T [m.fc == true, inb m.r7 && inb m.r7], .int .i64 0, 5, hPm (z8f_0 m) (memL g)) := by kernel_rfl
theorem p8f_1 : endsAt [0, 1] (Ly.run ctx3 3000 [(22, false), (5, true)] (sP m g 143 b1 b2)) = some ([(m.fc == true, false), (inb m.r7 && inb m.r7, true)], .int .i64 0, 5, hPm (z8f_1 m) (memL g)) := by kernel_rfl
theorem r8f_0 : endsAt [0, 1, 2] (Ly.run ctx3 3000 [(4, true), (16, true)] (sR m g 143)) = some (T [inw m.pc && true, inb m.r7 && inb m.r7], .int .i64 0, 4, hRm { m with fc := decide (255 < m.r7 + m.r7 + cI m.fc), fp := par ((m.r7 + m.r7 + cI m.fc) % 256), fs := decide (128 ≤ (m.r7 + m.r7 + cI m.fc) % 256), fx := decide (15 < m.r7 % 16 + m.r7 % 16 + cI m.fc), fz := (m.r7 + m.r7 + cI m.fc) % 256 == 0, pc := w16 (m.pc + 1), r7 := (m.r7 + m.r7 + cI m.fc) % 256 } (memL g)) := by kernel_rfl
theorem o8f (hm : m.Ok) (hg : ∀ e, B8 (g e)) (hh : m.halt = false) (h0 : g (ix m.pc) = 143) : Both m g := by
  obtain ⟨r0, r1, r2, r3, r4, r5, r7, sp, pc⟩ := id hm
  cases hf : m.fc
  · exact joinA (m' := (z8f_1 m)) hm hh h0 (p8f_1 m g _ _) (r8f_0 m g) hg
  · exact joinA (m' := (z8f_0 m)) hm hh h0 (p8f_0 m g _ _) (r8f_0 m g) hg
theorem blk8 (m : Mc) (g : Nat → Int) (hm : m.Ok) (hg : ∀ e, B8 (g e)) (hh : m.halt = false) (h1 : 128 ≤ g (ix m.pc)) (h2 : g (ix m.pc) < 144) : Both m g := by
  have h : g (ix m.pc) = 128 ∨ g (ix m.pc) = 129 ∨ g (ix m.pc) = 130 ∨ g (ix m.pc) = 131 ∨ g (ix m.pc) = 132 ∨ g (ix m.pc) = 133 ∨ g (ix m.pc) = 134 ∨ g (ix m.pc) = 135 ∨ g (ix m.pc) = 136 ∨ g (ix m.pc) = 137 ∨ g (ix m.pc) = 138 ∨ g (ix m.pc) = 139 ∨ g (ix m.pc) = 140 ∨ g (ix m.pc) = 141 ∨ g (ix m.pc) = 142 ∨ g (ix m.pc) = 143 := by omega
  rcases h with h | h | h | h | h | h | h | h | h | h | h | h | h | h | h | h
  · exact o80 m g hm hg hh h
  · exact o81 m g hm hg hh h
  · exact o82 m g hm hg hh h
  · exact o83 m g hm hg hh h
  · exact o84 m g hm hg hh h
  · exact o85 m g hm hg hh h
  · exact o86 m g hm hg hh h
  · exact o87 m g hm hg hh h
  · exact o88 m g hm hg hh h
  · exact o89 m g hm hg hh h
  · exact o8a m g hm hg hh h
  · exact o8b m g hm hg hh h
  · exact o8c m g hm hg hh h
  · exact o8d m g hm hg hh h
  · exact o8e m g hm hg hh h
  · exact o8f m g hm hg hh h
end Go.Proofs.Ytpggoincnebfnaa
namespace Go.Proofs.Ytpggoincnebfnaa
open Go Go.Ly Go.RowKit
variable (m : Mc) (g : Nat → Int) (b1 b2 : Int)
@[simp] def z90_0 (m : Mc) : Mc := { m with fc := decide (m.r7 - m.r0 - 0 < 0), fp := par ((m.r7 - m.r0 - 0) % 256), fs := decide (128 ≤ (m.r7 - m.r0 - 0) % 256), fx := decide (15 < m.r7 % 16 + 15 - m.r0 % 16 + 1), fz := (m.r7 - m.r0 - 0) % 256 == 0, pc := w16 (m.pc + 1), r7 := (m.r7 - m.r0 - 0) % 256 }
theorem p90_0 : endsAt [0, 1] (Ly.run ctx3 3000 [(22, true), (7, true)] (sP m g 144 b1 b2)) = some (T [m.fc == true, inb m.r7 && inb m.r0], .int .i64 0, 5, hPm (z90_0 m) (memL g)) := by kernel_rfl
theorem p90_1 : endsAt [0, 1] (Ly.run ctx3 3000 [(22, false), (7, true)] (sP m g 144 b1 b2)) = some ([(m.fc == true, false), (inb m.r7 && inb m.r0, true)], .int .i64 0, 5, hPm (z90_0 m) (memL g)) := by kernel_rfl
theorem r90_0 : endsAt [0, 1, 2] (Ly.run ctx3 3000 [(4, true), (18, true)] (sR m g 144)) = some (T [inw m.pc && true, inb m.r7 && inb m.r0], .int .i64 0, 4, hRm (z90_0 m) (memL g)) := by kernel_rfl
theorem o90 (hm : m.Ok) (hg : ∀ e, B8 (g e)) (hh : m.halt = false) (h0 : g (ix m.pc) = 144) : Both m g := by
  obtain ⟨r0, r1, r2, r3, r4, r5, r7, sp, pc⟩ := id hm
  cases hf : m.fc
  · exact joinA (m' := (z90_0 m)) hm hh h0 (p90_1 m g _ _) (r90_0 m g) hg
  · exact joinA (m' := (z90_0 m)) hm hh h0 (p90_0 m g _ _) (r90_0 m g) hg
@[simp] def z91_0 (m : Mc) : Mc := { m with fc := decide (m.r7 - m.r1 - 0 < 0), fp := par ((m.r7 - m.r1 - 0) % 256), fs := decide (128 ≤ (m.r7 - m.r1 - 0) % 256), fx := decide (15 < m.r7 % 16 + 15 - m.r1 % 16 + 1), fz := (m.r7 - m.r1 - 0) % 256 == 0, pc := w16 (m.pc + 1), r7 := (m.r7 - m.r1 - 0) % 256 }
theorem p91_0 : endsAt [0, 1] (Ly.run ctx3 3000 [(22, true), (7, true)] (sP m g 145 b1 b2)) = some (T [m.fc == true, inb m.r7 && inb m.r1], .int .i64 0, 5, hPm (z91_0 m) (memL g)) := by kernel_rfl
theorem p91_1 : endsAt [0, 1] (Ly.run ctx3 3000 [(22, false), (7, true)] (sP m g 145 b1 b2)) = some ([(m.fc == true, false), (inb m.r7 && inb m.r1, true)], .int .i64 0, 5, hPm (z91_0 m) (memL g)) := by kernel_rfl
theorem r91_0 : endsAt [0, 1, 2] (Ly.run ctx3 3000 [(4, true), (18, true)] (sR m g 145)) = some (T [inw m.pc && true, inb m.r7 && inb m.r1], .int .i64 0, 4, hRm (z91_0 m) (memL g)) := by kernel_rfl
theorem o91 (hm : m.Ok) (hg : ∀ e, B8 (g e)) (hh : m.halt = false) (h0 : g (ix m.pc) = 145) : Both m g := by
  obtain ⟨r0, r1, r2, r3, r4, r5, r7, sp, pc⟩ := id hm
  cases hf : m.fc
  · exact joinA (m' := (z91_0 m)) hm hh h0 (p91_1 m g _ _) (r91_0 m g) hg
  · exact joinA (m' := (z91_0 m)) hm hh h0 (p91_0 m g _ _) (r91_0 m g) hg
@[simp] def z92_0 (m : Mc) : Mc := { m with fc := decide (m.r7 - m.r2 - 0 < 0), fp := par ((m.r7 - m.r2 - 0) % 256), fs := decide (128 ≤ (m.r7 - m.r2 - 0) % 256), fx := decide (15 < m.r7 % 16 + 15 - m.r2 % 16 + 1), fz := (m.r7 - m.r2 - 0) % 256 == 0, pc := w16 (m.pc + 1), r7 := (m.r7 - m.r2 - 0) % 256 }
theorem p92_0 : endsAt [0, 1] (Ly.run ctx3 3000 [(22, true), (7, true)] (sP m g 146 b1 b2)) = some (T [m.fc == true, inb m.r7 && inb m.r2], .int .i64 0, 5, hPm (z92_0 m) (memL g)) := by kernel_rfl
theorem p92_1 : endsAt [0, 1] (Ly.run ctx3 3000 [(22, false), (7, true)] (sP m g 146 b1 b2)) = some ([(m.fc == true, false), (inb m.r7 && inb m.r2, true)], .int .i64 0, 5, hPm (z92_0 m) (memL g)) := by kernel_rfl
theorem r92_0 : endsAt [0, 1, 2] (Ly.run ctx3 3000 [(4, true), (18, true)] (sR m g 146)) = some (T [inw m.pc && true, inb m.r7 && inb m.r2], .int .i64 0, 4, hRm (z92_0 m) (memL g)) := by kernel_rfl
theorem o92 (hm : m.Ok) (hg : ∀ e, B8 (g e)) (hh : m.halt = false) (h0 : g (ix m.pc) = 146) : Both m g := by
  obtain ⟨r0, r1, r2, r3, r4, r5, r7, sp, pc⟩ := id hm
  cases hf : m.fc
  · exact joinA (m' := (z92_0 m)) hm hh h0 (p92_1 m g _ _) (r92_0 m g) hg
  · exact joinA (m' := (z92_0 m)) hm hh h0 (p92_0 m g _ _) (r92_0 m g) hg
@[simp] def z93_0 (m : Mc) : Mc := { m with fc := decide (m.r7 - m.r3 - 0 < 0), fp := par ((m.r7 - m.r3 - 0) % 256), fs := decide (128 ≤ (m.r7 - m.r3 - 0) % 256), fx := decide (15 < m.r7 % 16 + 15 - m.r3 % 16 + 1), fz := (m.r7 - m.r3 - 0) % 256 == 0, pc := w16 (m.pc + 1), r7 := (m.r7 - m.r3 - 0) % 256 }
theorem p93_0 : endsAt [0, 1] (Ly.run ctx3 3000 [(22, true), (7, true)] (sP m g 147 b1 b2)) = some (T [m.fc == true, inb m.r7 && inb m.r3], .int .i64 0, 5, hPm (z93_0 m) (memL g)) := by kernel_rfl
theorem p93_1 : endsAt [0, 1] (Ly.run ctx3 3000 [(22, false), (7, true)] (sP m g 147 b1 b2)) = some ([(m.fc == true, false), (inb m.r7 && inb m.r3, true)], .int .i64 0, 5, hPm (z93_0 m) (memL g)) := by kernel_rfl
theorem r93_0 : endsAt [0, 1, 2] (Ly.run ctx3 3000 [(4, true), (18, true)] (sR m g 147)) = some (T [inw m.pc && true, inb m.r7 && inb m.r3], .int .i64 0, 4, hRm (z93_0 m) (memL g)) := by kernel_rfl
theorem o93 (hm : m.Ok) (hg : ∀ e, B8 (g e)) (hh : m.halt = false) (h0 : g (ix m.pc) = 147) : Both m g := by
  obtain ⟨r0, r1, r2, r3, r4, r5, r7, sp, pc⟩ := id hm
  cases hf : m.fc
  · exact joinA (m' := (z93_0 m)) hm hh h0 (p93_1 m g _ _) (r93_0 m g) hg
  · exact joinA (m' := (z93_0 m)) hm hh h0 (p93_0 m g _ _) (r93_0 m g) hg
@[simp] def z94_0 (m : Mc) : Mc := { m with fc := decide (m.r7 - m.r4 - 0 < 0), fp := par ((m.r7 - m.r4 - 0) % 256), fs := decide (128 ≤ (m.r7 - m.r4 - 0) % 256), fx := decide (15 < m.r7 % 16 + 15 - m.r4 % 16 + 1), fz := (m.r7 - m.r4 - 0) % 256 == 0, pc := w16 (m.pc + 1), r7 := (m.r7 - m.r4 - 0) % 256 }
theorem p94_0 : endsAt [0, 1] (Ly.run ctx3 3000 [(22, true), (7, true)] (sP m g 148 b1 b2)) = some (T [m.fc == true, inb m.r7 && inb m.r4], .int .i64 0, 5, hPm (z94_0 m) (memL g)) := by kernel_rfl
theorem p94_1 : endsAt [0, 1] (Ly.run ctx3 3000 [(22, false), (7, true)] (sP m g 148 b1 b2)) = some ([(m.fc == true, false), (inb m.r7 && inb m.r4, true)], .int .i64 0, 5, hPm (z94_0 m) (memL g)) := by kernel_rfl
theorem r94_0 : endsAt [0, 1, 2] (Ly.run ctx3 3000 [(4, true), (18, true)] (sR m g 148)) = some (T [inw m.pc && true, inb m.r7 && inb m.r4], .int .i64 0, 4, hRm (z94_0 m) (memL g)) := by kernel_rfl
theorem o94 (hm : m.Ok) (hg : ∀ e, B8 (g e)) (hh : m.halt = false) (h0 : g (ix m.pc) = 148) : Both m g := by
  obtain ⟨r0, r1, r2, r3, r4, r5, r7, sp, pc⟩ := id hm
  cases hf : m.fc
  · exact joinA (m' := (z94_0 m)) hm hh h0 (p94_1 m g _ _) (r94_0 m g) hg
  · exact joinA (m' := (z94_0 m)) hm hh h0 (p94_0 m g _ _) (r94_0 m g) hg
@[simp] def z95_0 (m : Mc) : Mc := { m with fc := decide (m.r7 - m.r5 - 0 < 0), fp := par ((m.r7 - m.r5 - 0) % 256), fs := decide (128 ≤ (m.r7 - m.r5 - 0) % 256), fx := decide (15 < m.r7 % 16 + 15 - m.r5 % 16 + 1), fz := (m.r7 - m.r5 - 0) % 256 == 0, pc := w16 (m.pc + 1), r7 := (m.r7 - m.r5 - 0) % 256 }
theorem p95_0 : endsAt [0, 1] (Ly.run ctx3 3000 [(22, true), (7, true)] (sP m g 149 b1 b2)) = some (T [m.fc == true, inb m.r7 && inb m.r5], .int .i64 0, 5, hPm (z95_0 m) (memL g)) := by kernel_rfl
theorem p95_1 : endsAt [0, 1] (Ly.run ctx3 3000 [(22, false), (7, true)] (sP m g 149 b1 b2)) = some ([(m.fc == true, false), (inb m.r7 && inb m.r5, true)], .int .i64 0, 5, hPm (z95_0 m) (memL g)) := by kernel_rfl
theorem r95_0 : endsAt [0, 1, 2] (Ly.run ctx3 3000 [(4, true), (18, true)] (sR m g 149)) = some (T [inw m.pc && true, inb m.r7 && inb m.r5], .int .i64 0, 4, hRm (z95_0 m) (memL g)) := by kernel_rfl
theorem o95 (hm : m.Ok) (hg : ∀ e, B8 (g e)) (hh : m.halt = false) (h0 : g (ix m.pc) = 149) : Both m g := by
  obtain ⟨r0, r1, r2, r3, r4, r5, r7, sp, pc⟩ := id hm
  cases hf : m.fc
  · exact joinA (m' := (z95_0 m)) hm hh h0 (p95_1 m g _ _) (r95_0 m g) hg
  · exact joinA (m' := (z95_0 m)) hm hh h0 (p95_0 m g _ _) (r95_0 m g) hg
@[simp] def z96_0 (m : Mc) (g : Nat → Int) : Mc := { m with fc := decide (m.r7 - g (ix (or16 (w16 (w16 m.r4 * 256)) (w16 m.r5))) - 0 < 0), fp := par ((m.r7 - g (ix (or16 (w16 (w16 m.r4 * 256)) (w16 m.r5))) - 0) % 256), fs := decide (128 ≤ (m.r7 - g (ix (or16 (w16 (w16 m.r4 * 256)) (w16 m.r5))) - 0) % 256), fx := decide (15 < m.r7 % 16 + 15 - g (ix (or16 (w16 (w16 m.r4 * 256)) (w16 m.r5))) % 16 + 1), fz := (m.r7 - g (ix (or16 (w16 (w16 m.r4 * 256)) (w16 m.r5))) - 0) % 256 == 0, pc := w16 (m.pc + 1), r7 := (m.r7 - g (ix (or16 (w16 (w16 m.r4 * 256)) (w16 m.r5))) - 0) % 256 }
theorem p96_0 : endsAt [0, 1] (Ly.run ctx3 3000 [(28, true), (0, true), (13, true), (0, true), (1, true), (7, true)] (sP m g 150 b1 b2)) = some (T [(true && lt16 (or16 (w16 (w16 m.r4 * 256)) (w16 m.r5))), bl (ix (or16 (w16 (w16 m.r4 * 256)) (w16 m.r5))), (true && lt16 (or16 (w16 (w16 m.r4 * 256)) (w16 m.r5))), bl (ix (or16 (w16 (w16 m.r4 * 256)) (w16 m.r5))), m.fc == true, inb m.r7 && inb (g (ix (or16 (w16 (w16 m.r4 * 256)) (w16 m.r5))))], .int .i64 0, 5, hPm (z96_0 m g) (memL g)) := by kernel_rfl
theorem p96_1 : endsAt [0, 1] (Ly.run ctx3 3000 [(28, true), (0, true), (13, true), (0, true), (1, false), (7, true)] (sP m g 150 b1 b2)) = some ([((true && lt16 (or16 (w16 (w16 m.r4 * 256)) (w16 m.r5))), true), (bl (ix (or16 (w16 (w16 m.r4 * 256)) (w16 m.r5))), true), ((true && lt16 (or16 (w16 (w16 m.r4 * 256)) (w16 m.r5))), true), (bl (ix (or16 (w16 (w16 m.r4 * 256)) (w16 m.r5))), true), (m.fc == true, false), (inb m.r7 && inb (g (ix (or16 (w16 (w16 m.r4 * 256)) (w16 m.r5)))), true)], .int .i64 0, 5, hPm (z96_0 m g) (memL g)) := by kernel_rfl
theorem r96_0 : endsAt [0, 1, 2] (Ly.run ctx3 3000 [(4, true), (12, true), (0, true), (0, true), (11, true)] (sR m g 150)) = some (T [inw m.pc && true, inb m.r4 && inb m.r5, rg (256 * m.r4 + m.r5), bl (ix (256 * m.r4 + m.r5)), inb m.r7 && inb (g (ix (256 * m.r4 + m.r5)))], .int .i64 0, 4, hRm { m with fc := decide (m.r7 - g (ix (256 * m.r4 + m.r5)) - 0 < 0), fp := par ((m.r7 - g (ix (256 * m.r4 + m.r5)) - 0) % 256), fs := decide (128 ≤ (m.r7 - g (ix (256 * m.r4 + m.r5)) - 0) % 256), fx := decide (15 < m.r7 % 16 + 15 - g (ix (256 * m.r4 + m.r5)) % 16 + 1), fz := (m.r7 - g (ix (256 * m.r4 + m.r5)) - 0) % 256 == 0, pc := w16 (m.pc + 1), r7 := (m.r7 - g (ix (256 * m.r4 + m.r5)) - 0) % 256 } (memL g)) := by kernel_rfl
theorem o96 (hm : m.Ok) (hg : ∀ e, B8 (g e)) (hh : m.halt = false) (h0 : g (ix m.pc) = 150) : Both m g := by
  obtain ⟨r0, r1, r2, r3, r4, r5, r7, sp, pc⟩ := id hm
  cases hf : m.fc
  · exact joinA (m' := (z96_0 m g)) hm hh h0 (p96_1 m g _ _) (r96_0 m g) hg
  · exact joinA (m' := (z96_0 m g)) hm hh h0 (p96_0 m g _ _) (r96_0 m g) hg
@[simp] def z97_0 (m : Mc) : Mc := { m with fc := decide (m.r7 - m.r7 - 0 < 0), fp := par ((m.r7 - m.r7 - 0) % 256), fs := decide (128 ≤ (m.r7 - m.r7 - 0) % 256), fx := decide (15 < m.r7 % 16 + 15 - m.r7 % 16 + 1), fz := (m.r7 - m.r7 - 0) % 256 == 0, pc := w16 (m.pc + 1), r7 := (m.r7 - m.r7 - 0) % 256 }
theorem p97_0 : endsAt [0, 1] (Ly.run ctx3 3000 [(22, true), (7, true)] (sP m g 151 b1 b2)) = some (T [m.fc == true, inb m.r7 && inb m.r7], .int .i64 0, 5, hPm (z97_0 m) (memL g)) := by kernel_rfl
theorem p97_1 : endsAt [0, 1] (Ly.run ctx3 3000 [(22, false), (7, true)] (sP m g 151 b1 b2)) = some ([(m.fc == true, false), (inb m.r7 && inb m.r7, true)], .int .i64 0, 5, hPm (z97_0 m) (memL g)) := by kernel_rfl
theorem r97_0 : endsAt [0, 1, 2] (Ly.run ctx3 3000 [(4, true), (18, true)] (sR m g 151)) = some (T [inw m.pc && true, inb m.r7 && inb m.r7], .int .i64 0, 4, hRm (z97_0 m) (memL g)) := by kernel_rfl
theorem o97 (hm : m.Ok) (hg : ∀ e, B8 (g e)) (hh : m.halt = false) (h0 : g (ix m.pc) = 151) : Both m g := by
  obtain ⟨r0, r1, r2, r3, r4, r5, r7, sp, pc⟩ := id hm
  cases hf : m.fc
  · exact joinA (m' := (z97_0 m)) hm hh h0 (p97_1 m g _ _) (r97_0 m g) hg
  · exact joinA (m' := (z97_0 m)) hm hh h0 (p97_0 m g _ _) (r97_0 m g) hg
@[simp] def z98_0 (m : Mc) : Mc := { m with fc := decide (m.r7 - m.r0 - 1 < 0), fp := par ((m.r7 - m.r0 - 1) % 256), fs := decide (128 ≤ (m.r7 - m.r0 - 1) % 256), fx := decide (15 < m.r7 % 16 + 15 - m.r0 % 16 + 0), fz := (m.r7 - m.r0 - 1) % 256 == 0, pc := w16 (m.pc + 1), r7 := (m.r7 - m.r0 - 1) % 256 }
@[simp] def z98_1 (m : Mc) : Mc := { m with fc := decide (m.r7 - m.r0 - 0 < 0), fp := par ((m.r7 - m.r0 - 0) % 256), fs := decide (128 ≤ (m.r7 - m.r0 - 0) % 256), fx := decide (15 < m.r7 % 16 + 15 - m.r0 % 16 + 1), fz := (m.r7 - m.r0 - 0) % 256 == 0, pc := w16 (m.pc + 1), r7 := (m.r7 - m.r0 - 0) % 256 }
theorem p98_0 : endsAt [0, 1] (Ly.run ctx3 3000 [(22, true), (7, true)] (sP m g 152 b1 b2)) = some (T [m.fc == true, inb m.r7 && inb m.r0], .int .i64 0, 5, hPm (z98_0 m) (memL g)) := by kernel_rfl
theorem p98_1 : endsAt [0, 1] (Ly.run ctx3 3000 [(22, false), (7, true)] (sP m g 152 b1 b2)) = some ([(m.fc == true, false), (inb m.r7 && inb m.r0, true)], .int .i64 0, 5, hPm (z98_1 m) (memL g)) := by kernel_rfl
theorem r98_0 : endsAt [0, 1, 2] (Ly.run ctx3 3000 [(4, true), (19, true)] (sR m g 152)) = some (T [inw m.pc && true, inb m.r7 && inb m.r0], .int .i64 0, 4, hRm { m with fc := decide (m.r7 - m.r0 - cI m.fc < 0), fp := par ((m.r7 - m.r0 - cI m.fc) % 256), fs := decide (128 ≤ (m.r7 - m.r0 - cI m.fc) % 256), fx := decide (15 < m.r7 % 16 + 15 - m.r0 % 16 + cI !m.fc), fz := (m.r7 - m.r0 - cI m.fc) % 256 == 0, pc := w16 (m.pc + 1), r7 := (m.r7 - m.r0 - cI m.fc) % 256 } (memL g)) := by kernel_rfl
theorem o98 (hm : m.Ok) (hg : ∀ e, B8 (g e)) (hh : m.halt = false) (h0 : g (ix m.pc) = 152) : Both m g := by
  obtain ⟨r0, r1, r2, r3, r4, r5, r7, sp, pc⟩ := id hm
  cases hf : m.fc
  · exact joinA (m' := (z98_1 m)) hm hh h0 (p98_1 m g _ _) (r98_0 m g) hg
  · exact joinA (m' := (z98_0 m)) hm hh h0 (p98_0 m g _ _) (r98_0 m g) hg
@[simp] def z99_0 (m : Mc) : Mc := { m with fc := decide (m.r7 - m.r1 - 1 < 0), fp := par ((m.r7 - m.r1 - 1) % 256), fs := decide (128 ≤ (m.r7 - m.r1 - 1) % 256), fx := decide (15 < m.r7 % 16 + 15 - m.r1 % 16 + 0), fz := (m.r7 - m.r1 - 1) % 256 == 0, pc := w16 (m.pc + 1), r7 := (m.r7 - m.r1 - 1) % 256 }
@[simp] def z99_1 (m : Mc) : Mc := { m with fc := decide (m.r7 - m.r1 - 0 < 0), fp := par ((m.r7 - m.r1 - 0) % 256), fs := decide (128 ≤ (m.r7 - m.r1 - 0) % 256), fx := decide (15 < m.r7 % 16 + 15 - m.r1 % 16 + 1), fz := (m.r7 - m.r1 - 0) % 256 == 0, pc := w16 (m.pc + 1), r7 := (m.r7 - m.r1 - 0) % 256 }
theorem p99_0 : endsAt [0, 1] (Ly.run ctx3 3000 [(22, true), (7, true)] (sP m g 153 b1 b2)) = some (T [m.fc == true, inb m.r7 && inb m.r1], .int .i64 0, 5, hPm (z99_0 m) (memL g)) := by kernel_rfl
theorem p99_1 : endsAt [0, 1] (Ly.run ctx3 3000 [(22, false), (7, true)] (sP m g 153 b1 b2)) = some ([(m.fc == true, false), (inb m.r7 && inb m.r1, true)], .int .i64 0, 5, hPm (z99_1 m) (memL g)) := by kernel_rfl
theorem r99_0 : endsAt [0, 1, 2] (Ly.run ctx3 3000 [(4, true), (19, true)] (sR m g 153)) = some (T [inw m.pc && true, inb m.r7 && inb m.r1], .int .i64 0, 4, hRm { m with fc := decide (m.r7 - m.r1 - cI m.fc < 0), fp := par ((m.r7 - m.r1 - cI m.fc) % 256), fs := decide (128 ≤ (m.r7 - m.r1 - cI m.fc) % 256), fx := decide (15 < m.r7 % 16 + 15 - m.r1 % 16 + cI !m.fc), fz := (m.r7 - m.r1 - cI m.fc) % 256 == 0, pc := w16 (m.pc + 1), r7 := (m.r7 - m.r1 - cI m.fc) % 256 } (memL g)) := by kernel_rfl
theorem o99 (hm : m.Ok) (hg : ∀ e, B8 (g e)) (hh : m.halt = false) (h0 : g (ix m.pc) = 153) : Both m g := by
  obtain ⟨r0, r1, r2, r3, r4, r5, r7, sp, pc⟩ := id hm
  cases hf : m.fc
  · exact joinA (m' := (z99_1 m)) hm hh h0 (p99_1 m g _ _) (r99_0 m g) hg
  · exact joinA (m' := (z99_0 m)) hm hh h0 (p99_0 m g _ _) (r99_0 m g) hg
@[simp] def z9a_0 (m : Mc) : Mc := { m with fc := decide (m.r7 - m.r2 - 1 < 0), fp := par ((m.r7 - m.r2 - 1) % 256), fs := decide (128 ≤ (m.r7 - m.r2 - 1) % 256), fx := decide (15 < m.r7 % 16 + 15 - m.r2 % 16 + 0), fz := (m.r7 - m.r2 - 1) % 256 == 0, pc := w16 (m.pc + 1), r7 := (m.r7 - m.r2 - 1) % 256 }
@[simp] def z9a_1 (m : Mc) : Mc := { m with fc := decide (m.r7 - m.r2 - 0 < 0), fp := par ((m.r7 - m.r2 - 0) % 256), fs := decide (128 ≤ (m.r7 - m.r2 - 0) % 256), fx := decide (15 < m.r7 % 16 + 15 - m.r2 % 16 + 1), fz := (m.r7 - m.r2 - 0) % 256 == 0, pc := w16 (m.pc + 1), r7 := (m.r7 - m.r2 - 0) % 256 }
theorem p9a_0 : endsAt [0, 1] (Ly.run ctx3 3000 [(22, true), (7, true)] (sP m g 154 b1 b2)) = some (T [m.fc == true, inb m.r7 && inb m.r2], .int .i64 0, 5, hPm (z9a_0 m) (memL g)) := by kernel_rfl
theorem p9a_1 : endsAt [0, 1] (Ly.run ctx3 3000 [(22, false), (7, true)] (sP m g 154 b1 b2)) = some ([(m.fc == true, false), (inb m.r7 && inb m.r2, true)], .int .i64 0, 5, hPm (z9a_1 m) (memL g)) := by kernel_rfl
theorem r9a_0 : endsAt [0, 1, 2] (Ly.run ctx3 3000 [(4, true), (19, true)] (sR m g 154)) = some (T [inw m.pc && true, inb m.r7 && inb m.r2], .int .i64 0, 4, hRm { m with fc := decide (m.r7 - m.r2 - cI m.fc < 0), fp := par ((m.r7 - m.r2 - cI m.fc) % 256), fs := decide (128 ≤ (m.r7 - m.r2 - cI m.fc) % 256), fx := decide (15 < m.r7 % 16 + 15 - m.r2 % 16 + cI !m.fc), fz := (m.r7 - m.r2 - cI m.fc) % 256 == 0, pc := w16 (m.pc + 1), r7 := (m.r7 - m.r2 - cI m.fc) % 256 } (memL g)) := by kernel_rfl
theorem o9a (hm : m.Ok) (hg : ∀ e, B8 (g e)) (hh : m.halt = false) (h0 : g (ix m.pc) = 154) : Both m g := by
  obtain ⟨r0, r1, r2, r3, r4, r5, r7, sp, pc⟩ := id hm
  cases hf : m.fc
  · exact joinA (m' := (z9a_1 m)) hm hh h0 (p9a_1 m g _ _) (r9a_0 m g) hg
  · exact joinA (m' := (z9a_0 m)) hm hh h0 (p9a_0 m g _ _) (r9a_0 m g) hg
@[simp] def z9b_0 (m : Mc) : Mc := { m with fc := decide (m.r7 - m.r3 - 1 < 0), fp := par ((m.r7 - m.r3 - 1) % 256), fs := decide (128 ≤ (m.r7 - m.r3 - 1) % 256), fx := decide (15 < m.r7 % 16 + 15 - m.r3 % 16 + 0), fz := (m.r7 - m.r3 - 1) % 256 == 0, pc := w16 (m.pc + 1), r7 := (m.r7 - m.r3 - 1) % 256 }
@[simp] def z9b_1 (m : Mc) : Mc := { m with fc := decide (m.r7 - m.r3 - 0 < 0), fp := par ((m.r7 - m.r3 - 0) % 256), fs := decide (128 ≤ (m.r7 - m.r3 - 0) % 256), fx := decide (15 < m.r7 % 16 + 15 - m.r3 % 16 + 1), fz := (m.r7 - m.r3 - 0) % 256 == 0, pc := w16 (m.pc + 1), r7 := (m.r7 - m.r3 - 0) % 256 }
theorem p9b_0 : endsAt [0, 1] (Ly.run ctx3 3000 [(22, true), (7, true)] (sP m g 155 b1 b2)) = some (T [m.fc == true, inb m.r7 && inb m.r3], .int .i64 0, 5, hPm (z9b_0 m) (memL g)) := by kernel_rfl
theorem p9b_1 : endsAt [0, 1] (Ly.run ctx3 3000 [(22, false), (7, true)] (sP m g 155 b1 b2)) = some ([(m.fc == true, false), (inb m.r7 && inb m.r3, true)], .int .i64 0, 5, hPm (z9b_1 m) (memL g)) := by kernel_rfl
theorem r9b_0 : endsAt [0, 1, 2] (Ly.run ctx3 3000 [(4, true), (19, true)] (sR m g 155)) = some (T [inw m.pc && true, inb m.r7 && inb m.r3], .int .i64 0, 4, hRm { m with fc := decide (m.r7 - m.r3 - cI m.fc < 0), fp := par ((m.r7 - m.r3 - cI m.fc) % 256), fs := decide (128 ≤ (m.r7 - m.r3 - cI m.fc) % 256), fx := decide (15 < m.r7 % 16 + 15 - m.r3 % 16 + cI !m.fc), fz := (m.r7 - m.r3 - cI m.fc) % 256 == 0, pc := w16 (m.pc + 1), r7 := (m.r7 - m.r3 - cI m.fc) % 256 } (memL g)) := by kernel_rfl
theorem o9b (hm : m.Ok) (hg : ∀ e, B8 (g e)) (hh : m.halt = false) (h0 : g (ix m.pc) = 155) : Both m g := by
  obtain ⟨r0, r1, r2, r3, r4, r5, r7, sp, pc⟩ := id hm
  cases hf : m.fc
  · exact joinA (m' := (z9b_1 m)) hm hh h0 (p9b_1 m g _ _) (r9b_0 m g) hg
  · exact joinA (m' := (z9b_0 m)) hm hh h0 (p9b_0 m g _ _) (r9b_0 m g) hg
@[simp] def z9c_0 (m : Mc) : Mc := { m with fc := decide (m.r7 - m.r4 - 1 < 0), fp := par ((m.r7 - m.r4 - 1) % 256), fs := decide (128 ≤ (m.r7 - m.r4 - 1) % 256), fx := decide (15 < m.r7 % 16 + 15 - m.r4 % 16 + 0), fz := (m.r7 - m.r4 - 1) % 256 == 0, pc := w16 (m.pc + 1), r7 := (m.r7 - m.r4 - 1) % 256 }
@[simp] def z9c_1 (m : Mc) : Mc := { m with fc := decide (m.r7 - m.r4 - 0 < 0), fp := par ((m.r7 - m.r4 - 0) % 256), fs := decide (128 ≤ (m.r7 - m.r4 - 0) % 256), fx := decide (15 < m.r7 % 16 + 15 - m.r4 % 16 + 1), fz := (m.r7 - m.r4 - 0) % 256 == 0, pc := w16 (m.pc + 1), r7 := (m.r7 - m.r4 - 0) % 256 }
theorem p9c_0 : endsAt [0, 1] (Ly.run ctx3 3000 [(22, true), (7, true)] (sP m g 156 b1 b2)) = some (T [m.fc == true, inb m.r7 && inb m.r4], .int .i64 0, 5, hPm (z9c_0 m) (memL g)) := by kernel_rfl
theorem p9c_1 : endsAt [0, 1] (Ly.run ctx3 3000 [(22, false), (7, true)] (sP m g 156 b1 b2)) = some ([(m.fc == true, false), (inb m.r7 && inb m.r4, true)], .int .i64 0, 5, hPm (z9c_1 m) (memL g)) := by kernel_rfl
theorem r9c_0 : endsAt [0, 1, 2] (Ly.run ctx3 3000 [(4, true), (19, true)] (sR m g 156)) = some (T [inw m.pc && true, inb m.r7 && inb m.r4], .int .i64 0, 4, hRm { m with fc := decide (m.r7 - m.r4 - cI m.fc < 0), fp := par ((m.r7 - m.r4 - cI m.fc) % 256), fs := decide (128 ≤ (m.r7 - m.r4 - cI m.fc) % 256), fx := decide (15 < m.r7 % 16 + 15 - m.r4 % 16 + cI !m.fc), fz := (m.r7 - m.r4 - cI m.fc) % 256 == 0, pc := w16 (m.pc + 1), r7 := (m.r7 - m.r4 - cI m.fc) % 256 } (memL g)) := by kernel_rfl
theorem o9c (hm : m.Ok) (hg : ∀ e, B8 (g e)) (hh : m.halt = false) (h0 : g (ix m.pc) = 156) : Both m g := by
  obtain ⟨r0, r1, r2, r3, r4, r5, r7, sp, pc⟩ := id hm
  cases hf : m.fc
  · exact joinA (m' := (z9c_1 m)) hm hh h0 (p9c_1 m g _ _) (r9c_0 m g) hg
  · exact joinA (m' := (z9c_0 m)) hm hh h0 (p9c_0 m g _ _) (r9c_0 m g) hg
@[simp] def z9d_0 (m : Mc) : Mc := { m with fc := decide (m.r7 - m.r5 - 1 < 0), fp := par ((m.r7 - m.r5 - 1) % 256), fs := decide (128 ≤ (m.r7 - m.r5 - 1) % 256), fx := decide (15 < m.r7 % 16 + 15 - m.r5 % 16 + 0), fz := (m.r7 - m.r5 - 1) % 256 == 0, pc := w16 (m.pc + 1), r7 := (m.r7 - m.r5 - 1) % 256 }
@[simp] def z9d_1 (m : Mc) : Mc := { m with fc := decide (m.r7 - m.r5 - 0 < 0), fp := par ((m.r7 - m.r5 - 0) % 256), fs := decide (128 ≤ (m.r7 - m.r5 - 0) % 256), fx := decide (15 < m.r7 % 16 + 15 - m.r5 % 16 + 1), fz := (m.r7 - m.r5 - 0) % 256 == 0, pc := w16 (m.pc + 1), r7 := (m.r7 - m.r5 - 0) % 256 }
theorem p9d_0 : endsAt [0, 1] (Ly.run ctx3 3000 [(22, true), (7, true)] (sP m g 157 b1 b2)) = some (T [m.fc == true, inb m.r7 && inb m.r5], .int .i64 0, 5, hPm (z9d_0 m) (memL g)) := by kernel_rfl
theorem p9d_1 : endsAt [0, 1] (Ly.run ctx3 3000 [(22, false), (7, true)] (sP m g 157 b1 b2)) = some ([(m.fc == true, false), (inb m.r7 && inb m.r5, true)], .int .i64 0, 5, hPm (z9d_1 m) (memL g)) := by kernel_rfl
theorem r9d_0 : endsAt [0, 1, 2] (Ly.run ctx3 3000 [(4, true), (19, true)] (sR m g 157)) = some (T [inw m.pc && true, inb m.r7 && inb m.r5], .int .i64 0, 4, hRm { m with fc := decide (m.r7 - m.r5 - cI m.fc < 0), fp := par ((m.r7 - m.r5 - cI m.fc) % 256), fs := decide (128 ≤ (m.r7 - m.r5 - cI m.fc) % 256), fx := decide (15 < m.r7 % 16 + 15 - m.r5 % 16 + cI !m.fc), fz := (m.r7 - m.r5 - cI m.fc) % 256 == 0, pc := w16 (m.pc + 1), r7 := (m.r7 - m.r5 - cI m.fc) % 256 } (memL g)) := by kernel_rfl
theorem o9d (hm : m.Ok) (hg : ∀ e, B8 (g e)) (hh : m.halt = false) (h0 : g (ix m.pc) = 157) : Both m g := by
  obtain ⟨r0, r1, r2, r3, r4, r5, r7, sp, pc⟩ := id hm
  cases hf : m.fc
  · exact joinA (m' := (z9d_1 m)) hm hh h0 (p9d_1 m g _ _) (r9d_0 m g) hg
  · exact joinA (m' := (z9d_0 m)) hm hh h0 (p9d_0 m g _ _) (r9d_0 m g) hg
@[simp] def z9e_0 (m : Mc) (g : Nat → Int) : Mc := { m with fc := decide (m.r7 - g (ix (or16 (w16 (w16 m.r4 * 256)) (w16 m.r5))) - 1 < 0), fp := par ((m.r7 - g (ix (or16 (w16 (w16 m.r4 * 256)) (w16 m.r5))) - 1) % 256), fs := decide (128 ≤ (m.r7 - g (ix (or16 (w16 (w16 m.r4 * 256)) (w16 m.r5))) - 1) % 256), fx := decide (15 < m.r7 % 16 + 15 - g (ix (or16 (w16 (w16 m.r4 * 256)) (w16 m.r5))) % 16 + 0), fz := (m.r7 - g (ix (or16 (w16 (w16 m.r4 * 256)) (w16 m.r5))) - 1) % 256 == 0, pc := w16 (m.pc + 1), r7 := (m.r7 - g (ix (or16 (w16 (w16 m.r4 * 256)) (w16 m.r5))) - 1) % 256 }
@[simp] def z9e_1 (m : Mc) (g : Nat → Int) : Mc := { m with fc := decide (m.r7 - g (ix (or16 (w16 (w16 m.r4 * 256)) (w16 m.r5))) - 0 < 0), fp := par ((m.r7 - g (ix (or16 (w16 (w16 m.r4 * 256)) (w16 m.r5))) - 0) % 256), fs := decide (128 ≤ (m.r7 - g (ix (or16 (w16 (w16 m.r4 * 256)) (w16 m.r5))) - 0) % 256), fx := decide (15 < m.r7 % 16 + 15 - g (ix (or16 (w16 (w16 m.r4 * 256)) (w16 m.r5))) % 16 + 1), fz := (m.r7 - g (ix (or16 (w16 (w16 m.r4 * 256)) (w16 m.r5))) - 0) % 256 == 0, pc := w16 (m.pc + 1), r7 := (m.r7 - g (ix (or16 (w16 (w16 m.r4 * 256)) (w16 m.r5))) - 0) % 256 }
theorem p9e_0 : endsAt [0, 1] (Ly.run ctx3 3000 [(28, true), (0, true), (13, true), (0, true), (1, true), (7, true)] (sP m g 158 b1 b2)) = some (T [(true && lt16 (or16 (w16 (w16 m.r4 * 256)) (w16 m.r5))), bl (ix (or16 (w16 (w16 m.r4 * 256)) (w16 m.r5))), (true && lt16 (or16 (w16 (w16 m.r4 * 256)) (w16 m.r5))), bl (ix (or16 (w16 (w16 m.r4 * 256)) (w16 m.r5))), m.fc == true, inb m.r7 && inb (g (ix (or16 (w16 (w16 m.r4 * 256)) (w16 m.r5))))], .int .i64 0, 5, hPm (z9e_0 m g) (memL g)) := by kernel_rfl
theorem p9e_1 : endsAt [0, 1] (Ly.run ctx3 3000 [(28, true), (0, true), (13, true), (0, true), (1, false), (7, true)] (sP m g 158 b1 b2)) = some ([((true && lt16 (or16 (w16 (w16 m.r4 * 256)) (w16 m.r5))), true), (bl (ix (or16 (w16 (w16 m.r4 * 256)) (w16 m.r5))), true), ((true && lt16 (or16 (w16 (w16 m.r4 * 256)) (w16 m.r5))), true), (bl (ix (or16 (w16 (w16 m.r4 * 256)) (w16 m.r5))), true), (m.fc == true, false), (inb m.r7 && inb (g (ix (or16 (w16 (w16 m.r4 * 256)) (w16 m.r5)))), true)], .int .i64 0, 5, hPm (z9e_1 m g) (memL g)) := by kernel_rfl
theorem r9e_0 : endsAt [0, 1, 2] (Ly.run ctx3 3000 [(4, true), (12, true), (0, true), (0, true), (12, true)] (sR m g 158)) = some (T [inw m.pc && true, inb m.r4 && inb m.r5, rg (256 * m.r4 + m.r5), bl (ix (256 * m.r4 + m.r5)), inb m.r7 && inb (g (ix (256 * m.r4 + m.r5)))], .int .i64 0, 4, hRm { m with fc := decide (m.r7 - g (ix (256 * m.r4 + m.r5)) - cI m.fc < 0), fp := par ((m.r7 - g (ix (256 * m.r4 + m.r5)) - cI m.fc) % 256), fs := decide (128 ≤ (m.r7 - g (ix (256 * m.r4 + m.r5)) - cI m.fc) % 256), fx := decide (15 < m.r7 % 16 + 15 - g (ix (256 * m.r4 + m.r5)) % 16 + cI !m.fc), fz := (m.r7 - g (ix (256 * m.r4 + m.r5)) - cI m.fc) % 256 == 0, pc := w16 (m.pc + 1), r7 := (m.r7 - g (ix (256 * m.r4 + m.r5)) - cI m.fc) % 256 } (memL g)) := by kernel_rfl
theorem o9e (hm : m.Ok) (hg : ∀ e, B8 (g e)) (hh : m.halt = false) (h0 : g (ix m.pc) = 158) : Both m g := by
  obtain ⟨r0, r1, r2, r3, r4, r5, r7, sp, pc⟩ := id hm
  cases hf : m.fc
  · exact joinA (m' := (z9e_1 m g)) hm hh h0 (p9e_1 m g _ _) (r9e_0 m g) hg
  · exact joinA (m' := (z9e_0 m g)) hm hh h0 (p9e_0 m g _ _) (r9e_0 m g) hg
@[simp] def z9f_0 (m : Mc) : Mc := { m with fc := decide (m.r7 - m.r7 - 1 < 0), fp := par ((m.r7 - m.r7 - 1) % 256), fs := decide (128 ≤ (m.r7 - m.r7 - 1) % 256), fx := decide (15 < m.r7 % 16 + 15 - m.r7 % 16 + 0), fz := (m.r7 - m.r7 - 1) % 256 == 0, pc := w16 (m.pc + 1), r7 := (m.r7 - m.r7 - 1) % 256 }
@[simp] def z9f_1 (m : Mc) : Mc := { m with fc := decide (m.r7 - m.r7 - 0 < 0), fp := par ((m.r7 - m.r7 - 0) % 256), fs := decide (128 ≤ (m.r7 - m.r7 - 0) % 256), fx := decide (15 < m.r7 % 16 + 15 - m.r7 % 16 + 1), fz := (m.r7 - m.r7 - 0) % 256 == 0, pc := w16 (m.pc + 1), r7 := (m.r7 - m.r7 - 0) % 256 }
theorem p9f_0 : endsAt [0, 1] (Ly.run ctx3 3000 [(22, true), (7, true)] (sP m g 159 b1 b2)) = some (T [m.fc == true, inb m.r7 && inb m.r7], .int .i64 0, 5, hPm (z9f_0 m) (memL g)) := by kernel_rfl
theorem p9f_1 : endsAt [0, 1] (Ly.run ctx3 3000 [(22, false), (7, true)] (sP m g 159 b1 b2)) = some ([(m.fc == true, false), (inb m.r7 && inb m.r7, true)], .int .i64 0, 5, hPm (z9f_1 m) (memL g)) := by kernel_rfl
theorem r9f_0 : endsAt [0, 1, 2] (Ly.run ctx3 3000 [(4, true), (19, true)] (sR m g 159)) = some (T [inw m.pc && true, inb m.r7 && inb m.r7], .int .i64 0, 4, hRm { m with fc := decide (m.r7 - m.r7 - cI m.fc < 0), fp := par ((m.r7 - m.r7 - cI m.fc) % 256), fs := decide (128 ≤ (m.r7 - m.r7 - cI m.fc) % 256), fx := decide (15 < m.r7 % 16 + 15 - m.r7 % 16 + cI !m.fc), fz := (m.r7 - m.r7 - cI m.fc) % 256 == 0, pc := w16 (m.pc + 1), r7 := (m.r7 - m.r7 - cI m.fc) % 256 } (memL g)) := by kernel_rfl
theorem o9f (hm : m.Ok) (hg : ∀ e, B8 (g e)) (hh : m.halt = false) (h0 : g (ix m.pc) = 159) : Both m g := by
  obtain ⟨r0, r1, r2, r3, r4, r5, r7, sp, pc⟩ := id hm
  cases hf : m.fc
  · exact joinA (m' := (z9f_1 m)) hm hh h0 (p9f_1 m g _ _) (r9f_0 m g) hg
  · exact joinA (m' := (z9f_0 m)) hm hh h0 (p9f_0 m g _ _) (r9f_0 m g) hg
theorem blk9 (m : Mc) (g : Nat → Int) (hm : m.Ok) (hg : ∀ e, B8 (g e)) (hh : m.halt = false) (h1 : 144 ≤ g (ix m.pc)) (h2 : g (ix m.pc) < 160) : Both m g := by
  have h : g (ix m.pc) = 144 ∨ g (ix m.pc) = 145 ∨ g (ix m.pc) = 146 ∨ g (ix m.pc) = 147 ∨ g (ix m.pc) = 148 ∨ g (ix m.pc) = 149 ∨ g (ix m.pc) = 150 ∨ g (ix m.pc) = 151 ∨ g (ix m.pc) = 152 ∨ g (ix m.pc) = 153 ∨ g (ix m.pc) = 154 ∨ g (ix m.pc) = 155 ∨ g (ix m.pc) = 156 ∨ g (ix m.pc) = 157 ∨ g (ix m.pc) = 158 ∨ g (ix m.pc) = 159 := by omega
  rcases h with h | h | h | h | h | h | h | h | h | h | h | h | h | h | h | h
  · exact o90 m g hm hg hh h
  · exact o91 m g hm hg hh h
  · exact o92 m g hm hg hh h
  · exact o93 m g hm hg hh h
  · exact o94 m g hm hg hh h
  · exact o95 m g hm hg hh h
  · exact o96 m g hm hg hh h
  · exact o97 m g hm hg hh h
  · exact o98 m g hm hg hh h
  · exact o99 m g hm hg hh h
  · exact o9a m g hm hg hh h
  · exact o9b m g hm hg hh h
  · exact o9c m g hm hg hh h
  · exact o9d m g hm hg hh h
  · exact o9e m g hm hg hh h
  · exact o9f m g hm hg hh h
end Go.Proofs.Ytpggoincnebfnaa
namespace Go.Proofs.Ytpggoincnebfnaa
open Go Go.Ly Go.RowKit
variable (m : Mc) (g : Nat → Int) (b1 b2 : Int)
@[simp] def za0_0 (m : Mc) : Mc := { m with fc := false, fp := par (and8 m.r7 m.r0), fs := decide (128 ≤ and8 m.r7 m.r0), fx := and8 (or8 m.r7 m.r0) 8 != 0, fz := and8 m.r7 m.r0 == 0, pc := w16 (m.pc + 1), r7 := and8 m.r7 m.r0 }
theorem pa0_0 : endsAt [0, 1] (Ly.run ctx3 3000 [(22, true), (8, true)] (sP m g 160 b1 b2)) = some (T [m.fc == true, inb m.r7 && inb m.r0], .int .i64 0, 5, hPm (za0_0 m) (memL g)) := by kernel_rfl
theorem pa0_1 : endsAt [0, 1] (Ly.run ctx3 3000 [(22, false), (8, true)] (sP m g 160 b1 b2)) = some ([(m.fc == true, false), (inb m.r7 && inb m.r0, true)], .int .i64 0, 5, hPm (za0_0 m) (memL g)) := by kernel_rfl
theorem ra0_0 : endsAt [0, 1, 2] (Ly.run ctx3 3000 [(4, true), (14, true)] (sR m g 160)) = some (T [inw m.pc && true, inb m.r7 && inb m.r0], .int .i64 0, 4, hRm (za0_0 m) (memL g)) := by kernel_rfl
theorem oa0 (hm : m.Ok) (hg : ∀ e, B8 (g e)) (hh : m.halt = false) (h0 : g (ix m.pc) = 160) : Both m g := by
  obtain ⟨r0, r1, r2, r3, r4, r5, r7, sp, pc⟩ := id hm
  cases hf : m.fc
  · exact joinA (m' := (za0_0 m)) hm hh h0 (pa0_1 m g _ _) (ra0_0 m g) hg
  · exact joinA (m' := (za0_0 m)) hm hh h0 (pa0_0 m g _ _) (ra0_0 m g) hg
@[simp] def za1_0 (m : Mc) : Mc := { m with fc := false, fp := par (and8 m.r7 m.r1), fs := decide (128 ≤ and8 m.r7 m.r1), fx := and8 (or8 m.r7 m.r1) 8 != 0, fz := and8 m.r7 m.r1 == 0, pc := w16 (m.pc + 1), r7 := and8 m.r7 m.r1 }
theorem pa1_0 : endsAt [0, 1] (Ly.run ctx3 3000 [(22, true), (8, true)] (sP m g 161 b1 b2)) = some (T [m.fc == true, inb m.r7 && inb m.r1], .int .i64 0, 5, hPm (za1_0 m) (memL g)) := by kernel_rfl
theorem pa1_1 : endsAt [0, 1] (Ly.run ctx3 3000 [(22, false), (8, true)] (sP m g 161 b1 b2)) = some ([(m.fc == true, false), (inb m.r7 && inb m.r1, true)], .int .i64 0, 5, hPm (za1_0 m) (memL g)) := by kernel_rfl
theorem ra1_0 : endsAt [0, 1, 2] (Ly.run ctx3 3000 [(4, true), (14, true)] (sR m g 161)) = some (T [inw m.pc && true, inb m.r7 && inb m.r1], .int .i64 0, 4, hRm (za1_0 m) (memL g)) := by kernel_rfl
theorem oa1 (hm : m.Ok) (hg : ∀ e, B8 (g e)) (hh : m.halt = false) (h0 : g (ix m.pc) = 161) : Both m g := by
  obtain ⟨r0, r1, r2, r3, r4, r5, r7, sp, pc⟩ := id hm
  cases hf : m.fc
  · exact joinA (m' := (za1_0 m)) hm hh h0 (pa1_1 m g _ _) (ra1_0 m g) hg
  · exact joinA (m' := (za1_0 m)) hm hh h0 (pa1_0 m g _ _) (ra1_0 m g) hg
@[simp] def za2_0 (m : Mc) : Mc := { m with fc := false, fp := par (and8 m.r7 m.r2), fs := decide (128 ≤ and8 m.r7 m.r2), fx := and8 (or8 m.r7 m.r2) 8 != 0, fz := and8 m.r7 m.r2 == 0, pc := w16 (m.pc + 1), r7 := and8 m.r7 m.r2 }
theorem pa2_0 : endsAt [0, 1] (Ly.run ctx3 3000 [(22, true), (8, true)] (sP m g 162 b1 b2)) = some (T [m.fc == true, inb m.r7 && inb m.r2], .int .i64 0, 5, hPm (za2_0 m) (memL g)) := by kernel_rfl
theorem pa2_1 : endsAt [0, 1] (Ly.run ctx3 3000 [(22, false), (8, true)] (sP m g 162 b1 b2)) = some ([(m.fc == true, false), (inb m.r7 && inb m.r2, true)], .int .i64 0, 5, hPm (za2_0 m) (memL g)) := by kernel_rfl
theorem ra2_0 : endsAt [0, 1, 2] (Ly.run ctx3 3000 [(4, true), (14, true)] (sR m g 162)) = some (T [inw m.pc && true, inb m.r7 && inb m.r2], .int .i64 0, 4, hRm (za2_0 m) (memL g)) := by kernel_rfl
theorem oa2 (hm : m.Ok) (hg : ∀ e, B8 (g e)) (hh : m.halt = false) (h0 : g (ix m.pc) = 162) : Both m g := by
  obtain ⟨r0, r1, r2, r3, r4, r5, r7, sp, pc⟩ := id hm
  cases hf : m.fc
  · exact joinA (m' := (za2_0 m)) hm hh h0 (pa2_1 m g _ _) (ra2_0 m g) hg
  · exact joinA (m' := (za2_0 m)) hm hh h0 (pa2_0 m g _ _) (ra2_0 m g) hg
@[simp] def za3_0 (m : Mc) : Mc := { m with fc := false, fp := par (and8 m.r7 m.r3), fs := decide (128 ≤ and8 m.r7 m.r3), fx := and8 (or8 m.r7 m.r3) 8 != 0, fz := and8 m.r7 m.r3 == 0, pc := w16 (m.pc + 1), r7 := and8 m.r7 m.r3 }
theorem pa3_0 : endsAt [0, 1] (Ly.run ctx3 3000 [(22, true), (8, true)] (sP m g 163 b1 b2)) = some (T [m.fc == true, inb m.r7 && inb m.r3], .int .i64 0, 5, hPm (za3_0 m) (memL g)) := by kernel_rfl
theorem pa3_1 : endsAt [0, 1] (Ly.run ctx3 3000 [(22, false), (8, true)] (sP m g 163 b1 b2)) = some ([(m.fc == true, false), (inb m.r7 && inb m.r3, true)], .int .i64 0, 5, hPm (za3_0 m) (memL g)) := by kernel_rfl
theorem ra3_0 : endsAt [0, 1, 2] (Ly.run ctx3 3000 [(4, true), (14, true)] (sR m g 163)) = some (T [inw m.pc && true, inb m.r7 && inb m.r3], .int .i64 0, 4, hRm (za3_0 m) (memL g)) := by kernel_rfl
theorem oa3 (hm : m.Ok) (hg : ∀ e, B8 (g e)) (hh : m.halt = false) (h0 : g (ix m.pc) = 163) : Both m g := by
  obtain ⟨r0, r1, r2, r3, r4, r5, r7, sp, pc⟩ := id hm
  cases hf : m.fc
  · exact joinA (m' := (za3_0 m)) hm hh h0 (pa3_1 m g _ _) (ra3_0 m g) hg
  · exact joinA (m' := (za3_0 m)) hm hh h0 (pa3_0 m g _ _) (ra3_0 m g) hg
@[simp] def za4_0 (m : Mc) : Mc := { m with fc := false, fp := par (and8 m.r7 m.r4), fs := decide (128 ≤ and8 m.r7 m.r4), fx := and8 (or8 m.r7 m.r4) 8 != 0, fz := and8 m.r7 m.r4 == 0, pc := w16 (m.pc + 1), r7 := and8 m.r7 m.r4 }
theorem pa4_0 : endsAt [0, 1] (Ly.run ctx3 3000 [(22, true), (8, true)] (sP m g 164 b1 b2)) = some (T [m.fc == true, inb m.r7 && inb m.r4], .int .i64 0, 5, hPm (za4_0 m) (memL g)) := by kernel_rfl
theorem pa4_1 : endsAt [0, 1] (Ly.run ctx3 3000 [(22, false), (8, true)] (sP m g 164 b1 b2)) = some ([(m.fc == true, false), (inb m.r7 && inb m.r4, true)], .int .i64 0, 5, hPm (za4_0 m) (memL g)) := by kernel_rfl
theorem ra4_0 : endsAt [0, 1, 2] (Ly.run ctx3 3000 [(4, true), (14, true)] (sR m g 164)) = some (T [inw m.pc && true, inb m.r7 && inb m.r4], .int .i64 0, 4, hRm (za4_0 m) (memL g)) := by kernel_rfl
theorem oa4 (hm : m.Ok) (hg : ∀ e, B8 (g e)) (hh : m.halt = false) (h0 : g (ix m.pc) = 164) : Both m g := by
  obtain ⟨r0, r1, r2, r3, r4, r5, r7, sp, pc⟩ := id hm
  cases hf : m.fc
  · exact joinA (m' := (za4_0 m)) hm hh h0 (pa4_1 m g _ _) (ra4_0 m g) hg
  · exact joinA (m' := (za4_0 m)) hm hh h0 (pa4_0 m g _ _) (ra4_0 m g) hg
@[simp] def za5_0 (m : Mc) : Mc := { m with fc := false, fp := par (and8 m.r7 m.r5), fs := decide (128 ≤ and8 m.r7 m.r5), fx := and8 (or8 m.r7 m.r5) 8 != 0, fz := and8 m.r7 m.r5 == 0, pc := w16 (m.pc + 1), r7 := and8 m.r7 m.r5 }
theorem pa5_0 : endsAt [0, 1] (Ly.run ctx3 3000 [(22, true), (8, true)] (sP m g 165 b1 b2)) = some (T [m.fc == true, inb m.r7 && inb m.r5], .int .i64 0, 5, hPm (za5_0 m) (memL g)) := by kernel_rfl
theorem pa5_1 : endsAt [0, 1] (Ly.run ctx3 3000 [(22, false), (8, true)] (sP m g 165 b1 b2)) = some ([(m.fc == true, false), (inb m.r7 && inb m.r5, true)], .int .i64 0, 5, hPm (za5_0 m) (memL g)) := by kernel_rfl
theorem ra5_0 : endsAt [0, 1, 2] (Ly.run ctx3 3000 [(4, true), (14, true)] (sR m g 165)) = some (T [inw m.pc && true, inb m.r7 && inb m.r5], .int .i64 0, 4, hRm (za5_0 m) (memL g)) := by kernel_rfl
theorem oa5 (hm : m.Ok) (hg : ∀ e, B8 (g e)) (hh : m.halt = false) (h0 : g (ix m.pc) = 165) : Both m g := by
  obtain ⟨r0, r1, r2, r3, r4, r5, r7, sp, pc⟩ := id hm
  cases hf : m.fc
  · exact joinA (m' := (za5_0 m)) hm hh h0 (pa5_1 m g _ _) (ra5_0 m g) hg
  · exact joinA (m' := (za5_0 m)) hm hh h0 (pa5_0 m g _ _) (ra5_0 m g) hg
@[simp] def za6_0 (m : Mc) (g : Nat → Int) : Mc := { m with fc := false, fp := par (and8 m.r7 (g (ix (or16 (w16 (w16 m.r4 * 256)) (w16 m.r5))))), fs := decide (128 ≤ and8 m.r7 (g (ix (or16 (w16 (w16 m.r4 * 256)) (w16 m.r5))))), fx := and8 (or8 m.r7 (g (ix (or16 (w16 (w16 m.r4 * 256)) (w16 m.r5))))) 8 != 0, fz := and8 m.r7 (g (ix (or16 (w16 (w16 m.r4 * 256)) (w16 m.r5)))) == 0, pc := w16 (m.pc + 1), r7 := and8 m.r7 (g (ix (or16 (w16 (w16 m.r4 * 256)) (w16 m.r5)))) }
theorem pa6_0 : endsAt [0, 1] (Ly.run ctx3 3000 [(28, true), (0, true), (13, true), (0, true), (1, true), (8, true)] (sP m g 166 b1 b2)) = some (T [(true && lt16 (or16 (w16 (w16 m.r4 * 256)) (w16 m.r5))), bl (ix (or16 (w16 (w16 m.r4 * 256)) (w16 m.r5))), (true && lt16 (or16 (w16 (w16 m.r4 * 256)) (w16 m.r5))), bl (ix (or16 (w16 (w16 m.r4 * 256)) (w16 m.r5))), m.fc == true, inb m.r7 && inb (g (ix (or16 (w16 (w16 m.r4 * 256)) (w16 m.r5))))], .int .i64 0, 5, hPm (za6_0 m g) (memL g)) := by kernel_rfl
theorem pa6_1 : endsAt [0, 1] (Ly.run ctx3 3000 [(28, true), (0, true), (13, true), (0, true), (1, false), (8, true)] (sP m g 166 b1 b2)) = some ([((true && lt16 (or16 (w16 (w16 m.r4 * 256)) (w16 m.r5))), true), (bl (ix (or16 (w16 (w16 m.r4 * 256)) (w16 m.r5))), true), ((true && lt16 (or16 (w16 (w16 m.r4 * 256)) (w16 m.r5))), true), (bl (ix (or16 (w16 (w16 m.r4 * 256)) (w16 m.r5))), true), (m.fc == true, false), (inb m.r7 && inb (g (ix (or16 (w16 (w16 m.r4 * 256)) (w16 m.r5)))), true)], .int .i64 0, 5, hPm (za6_0 m g) (memL g)) := by kernel_rfl
theorem ra6_0 : endsAt [0, 1, 2] (Ly.run ctx3 3000 [(4, true), (12, true), (0, true), (0, true), (7, true)] (sR m g 166)) = some (T [inw m.pc && true, inb m.r4 && inb m.r5, rg (256 * m.r4 + m.r5), bl (ix (256 * m.r4 + m.r5)), inb m.r7 && inb (g (ix (256 * m.r4 + m.r5)))], .int .i64 0, 4, hRm { m with fc := false, fp := par (and8 m.r7 (g (ix (256 * m.r4 + m.r5)))), fs := decide (128 ≤ and8 m.r7 (g (ix (256 * m.r4 + m.r5)))), fx := and8 (or8 m.r7 (g (ix (256 * m.r4 + m.r5)))) 8 != 0, fz := and8 m.r7 (g (ix (256 * m.r4 + m.r5))) == 0, pc := w16 (m.pc + 1), r7 := and8 m.r7 (g (ix (256 * m.r4 + m.r5))) } (memL g)) := by kernel_rfl
theorem oa6 (hm : m.Ok) (hg : ∀ e, B8 (g e)) (hh : m.halt = false) (h0 : g (ix m.pc) = 166) : Both m g := by
  obtain ⟨r0, r1, r2, r3, r4, r5, r7, sp, pc⟩ := id hm
  cases hf : m.fc
  · exact joinA (m' := (za6_0 m g)) hm hh h0 (pa6_1 m g _ _) (ra6_0 m g) hg
  · exact joinA (m' := (za6_0 m g)) hm hh h0 (pa6_0 m g _ _) (ra6_0 m g) hg
@[simp] def za7_0 (m : Mc) : Mc := { m with fc := false, fp := par (and8 m.r7 m.r7), fs := decide (128 ≤ and8 m.r7 m.r7), fx := and8 (or8 m.r7 m.r7) 8 != 0, fz := and8 m.r7 m.r7 == 0, pc := w16 (m.pc + 1), r7 := and8 m.r7 m.r7 }
theorem pa7_0 : endsAt [0, 1] (Ly.run ctx3 3000 [(22, true), (8, true)] (sP m g 167 b1 b2)) = some (T [m.fc == true, inb m.r7 && inb m.r7], .int .i64 0, 5, hPm (za7_0 m) (memL g)) := by kernel_rfl
theorem pa7_1 : endsAt [0, 1] (Ly.run ctx3 3000 [(22, false), (8, true)] (sP m g 167 b1 b2)) = some ([(m.fc == true, false), (inb m.r7 && inb m.r7, true)], .int .i64 0, 5, hPm (za7_0 m) (memL g)) := by kernel_rfl
theorem ra7_0 : endsAt [0, 1, 2] (Ly.run ctx3 3000 [(4, true), (14, true)] (sR m g 167)) = some (T [inw m.pc && true, inb m.r7 && inb m.r7], .int .i64 0, 4, hRm (za7_0 m) (memL g)) := by kernel_rfl
theorem oa7 (hm : m.Ok) (hg : ∀ e, B8 (g e)) (hh : m.halt = false) (h0 : g (ix m.pc) = 167) : Both m g := by
  obtain ⟨r0, r1, r2, r3, r4, r5, r7, sp, pc⟩ := id hm
  cases hf : m.fc
  · exact joinA (m' := (za7_0 m)) hm hh h0 (pa7_1 m g _ _) (ra7_0 m g) hg
  · exact joinA (m' := (za7_0 m)) hm hh h0 (pa7_0 m g _ _) (ra7_0 m g) hg
@[simp] def za8_0 (m : Mc) : Mc := { m with fc := false, fp := par (xor8 m.r7 m.r0), fs := decide (128 ≤ xor8 m.r7 m.r0), fx := false, fz := xor8 m.r7 m.r0 == 0, pc := w16 (m.pc + 1), r7 := xor8 m.r7 m.r0 }
theorem pa8_0 : endsAt [0, 1] (Ly.run ctx3 3000 [(22, true), (9, true)] (sP m g 168 b1 b2)) = some (T [m.fc == true, inb m.r7 && inb m.r0], .int .i64 0, 5, hPm (za8_0 m) (memL g)) := by kernel_rfl
theorem pa8_1 : endsAt [0, 1] (Ly.run ctx3 3000 [(22, false), (9, true)] (sP m g 168 b1 b2)) = some ([(m.fc == true, false), (inb m.r7 && inb m.r0, true)], .int .i64 0, 5, hPm (za8_0 m) (memL g)) := by kernel_rfl
theorem ra8_0 : endsAt [0, 1, 2] (Ly.run ctx3 3000 [(4, true), (15, true)] (sR m g 168)) = some (T [inw m.pc && true, inb m.r7 && inb m.r0], .int .i64 0, 4, hRm (za8_0 m) (memL g)) := by kernel_rfl
theorem oa8 (hm : m.Ok) (hg : ∀ e, B8 (g e)) (hh : m.halt = false) (h0 : g (ix m.pc) = 168) : Both m g := by
  obtain ⟨r0, r1, r2, r3, r4, r5, r7, sp, pc⟩ := id hm
  cases hf : m.fc
  · exact joinA (m' := (za8_0 m)) hm hh h0 (pa8_1 m g _ _) (ra8_0 m g) hg
  · exact joinA (m' := (za8_0 m)) hm hh h0 (pa8_0 m g _ _) (ra8_0 m g) hg
@[simp] def za9_0 (m : Mc) : Mc := { m with fc := false, fp := par (xor8 m.r7 m.r1), fs := decide (128 ≤ xor8 m.r7 m.r1), fx := false, fz := xor8 m.r7 m.r1 == 0, pc := w16 (m.pc + 1), r7 := xor8 m.r7 m.r1 }
theorem pa9_0 : endsAt [0, 1] (Ly.run ctx3 3000 [(22, true), (9, true)] (sP m g 169 b1 b2)) = some (T [m.fc == true, inb m.r7 && inb m.r1], .int .i64 0, 5, hPm (za9_0 m) (memL g)) := by kernel_rfl
theorem pa9_1 : endsAt [0, 1] (Ly.run ctx3 3000 [(22, false), (9, true)] (sP m g 169 b1 b2)) = some ([(m.fc == true, false), (inb m.r7 && inb m.r1, true)], .int .i64 0, 5, hPm (za9_0 m) (memL g)) := by kernel_rfl
theorem ra9_0 : endsAt [0, 1, 2] (Ly.run ctx3 3000 [(4, true), (15, true)] (sR m g 169)) = some (T [inw m.pc && true, inb m.r7 && inb m.r1], .int .i64 0, 4, hRm (za9_0 m) (memL g)) := by kernel_rfl
theorem oa9 (hm : m.Ok) (hg : ∀ e, B8 (g e)) (hh : m.halt = false) (h0 : g (ix m.pc) = 169) : Both m g := by
  obtain ⟨r0, r1, r2, r3, r4, r5, r7, sp, pc⟩ := id hm
  cases hf : m.fc
  · exact joinA (m' := (za9_0 m)) hm hh h0 (pa9_1 m g _ _) (ra9_0 m g) hg
  · exact joinA (m' := (za9_0 m)) hm hh h0 (pa9_0 m g _ _) (ra9_0 m g) hg
@[simp] def zaa_0 (m : Mc) : Mc := { m with fc := false, fp := par (xor8 m.r7 m.r2), fs := decide (128 ≤ xor8 m.r7 m.r2), fx := false, fz := xor8 m.r7 m.r2 == 0, pc := w16 (m.pc + 1), r7 := xor8 m.r7 m.r2 }
theorem paa_0 : endsAt [0, 1] (Ly.run ctx3 3000 [(22, true), (9, true)] (sP m g 170 b1 b2)) = some (T [m.fc == true, inb m.r7 && inb m.r2], .int .i64 0, 5, hPm (zaa_0 m) (memL g)) := by kernel_rfl
theorem paa_1 : endsAt [0, 1] (Ly.run ctx3 3000 [(22, false), (9, true)] (sP m g 170 b1 b2)) = some ([(m.fc == true, false), (inb m.r7 && inb m.r2, true)], .int .i64 0, 5, hPm (zaa_0 m) (memL g)) := by kernel_rfl
theorem raa_0 : endsAt [0, 1, 2] (Ly.run ctx3 3000 [(4, true), (15, true)] (sR m g 170)) = some (T [inw m.pc && true, inb m.r7 && inb m.r2], .int .i64 0, 4, hRm (zaa_0 m) (memL g)) := by kernel_rfl
theorem oaa (hm : m.Ok) (hg : ∀ e, B8 (g e)) (hh : m.halt = false) (h0 : g (ix m.pc) = 170) : Both m g := by
  obtain ⟨r0, r1, r2, r3, r4, r5, r7, sp, pc⟩ := id hm
  cases hf : m.fc
  · exact joinA (m' := (zaa_0 m)) hm hh h0 (paa_1 m g _ _) (raa_0 m g) hg
  · exact joinA (m' := (zaa_0 m)) hm hh h0 (paa_0 m g _ _) (raa_0 m g) hg
@[simp] def zab_0 (m : Mc) : Mc := { m with fc := false, fp := par (xor8 m.r7 m.r3), fs := decide (128 ≤ xor8 m.r7 m.r3), fx := false, fz := xor8 m.r7 m.r3 == 0, pc := w16 (m.pc + 1), r7 := xor8 m.r7 m.r3 }
theorem pab_0 : endsAt [0, 1] (Ly.run ctx3 3000 [(22, true), (9, true)] (sP m g 171 b1 b2)) = some (T [m.fc == true, inb m.r7 && inb m.r3], .int .i64 0, 5, hPm (zab_0 m) (memL g)) := by kernel_rfl
theorem pab_1 : endsAt [0, 1] (Ly.run ctx3 3000 [(22, false), (9, true)] (sP m g 171 b1 b2)) = some ([(m.fc == true, false), (inb m.r7 && inb m.r3, true)], .int .i64 0, 5, hPm (zab_0 m) (memL g)) := by kernel_rfl
theorem rab_0 : endsAt [0, 1, 2] (Ly.run ctx3 3000 [(4, true), (15, true)] (sR m g 171)) = some (T [inw m.pc && true, inb m.r7 && inb m.r3], .int .i64 0, 4, hRm (zab_0 m) (memL g)) := by kernel_rfl
theorem oab (hm : m.Ok) (hg : ∀ e, B8 (g e)) (hh : m.halt = false) (h0 : g (ix m.pc) = 171) : Both m g := by
  obtain ⟨r0, r1, r2, r3, r4, r5, r7, sp, pc⟩ := id hm
  cases hf : m.fc
  · exact joinA (m' := (zab_0 m)) hm hh h0 (pab_1 m g _ _) (rab_0 m g) hg
  · exact joinA (m' := (zab_0 m)) hm hh h0 (pab_0 m g _ _) (rab_0 m g) hg
@[simp] def zac_0 (m : Mc) : Mc := { m with fc := false, fp := par (xor8 m.r7 m.r4), fs := decide (128 ≤ xor8 m.r7 m.r4), fx := false, fz := xor8 m.r7 m.r4 == 0, pc := w16 (m.pc + 1), r7 := xor8 m.r7 m.r4 }
theorem pac_0 : endsAt [0, 1] (Ly.run ctx3 3000 [(22, true), (9, true)] (sP m g 172 b1 b2)) = some (T [m.fc == true, inb m.r7 && inb m.r4], .int .i64 0, 5, hPm (zac_0 m) (memL g)) := by kernel_rfl
theorem pac_1 : endsAt [0, 1] (Ly.run ctx3 3000 [(22, false), (9, true)] (sP m g 172 b1 b2)) = some ([(m.fc == true, false), (inb m.r7 && inb m.r4, true)], .int .i64 0, 5, hPm (zac_0 m) (memL g)) := by kernel_rfl
theorem rac_0 : endsAt [0, 1, 2] (Ly.run ctx3 3000 [(4, true), (15, true)] (sR m g 172)) = some (T [inw m.pc && true, inb m.r7 && inb m.r4], .int .i64 0, 4, hRm (zac_0 m) (memL g)) := by kernel_rfl
theorem oac (hm : m.Ok) (hg : ∀ e, B8 (g e)) (hh : m.halt = false) (h0 : g (ix m.pc) = 172) : Both m g := by
  obtain ⟨r0, r1, r2, r3, r4, r5, r7, sp, pc⟩ := id hm
  cases hf : m.fc
  · exact joinA (m' := (zac_0 m)) hm hh h0 (pac_1 m g _ _) (rac_0 m g) hg
  · exact joinA (m' := (zac_0 m)) hm hh h0 (pac_0 m g _ _) (rac_0 m g) hg
@[simp] def zad_0 (m : Mc) : Mc := { m with fc := false, fp := par (xor8 m.r7 m.r5), fs := decide (128 ≤ xor8 m.r7 m.r5), fx := false, fz := xor8 m.r7 m.r5 == 0, pc := w16 (m.pc + 1), r7 := xor8 m.r7 m.r5 }
theorem pad_0 : endsAt [0, 1] (Ly.run ctx3 3000 [(22, true), (9, true)] (sP m g 173 b1 b2)) = some (T [m.fc == true, inb m.r7 && inb m.r5], .int .i64 0, 5, hPm (zad_0 m) (memL g)) := by kernel_rfl
theorem pad_1 : endsAt [0, 1] (Ly.run ctx3 3000 [(22, false), (9, true)] (sP m g 173 b1 b2)) = some ([(m.fc == true, false), (inb m.r7 && inb m.r5, true)], .int .i64 0, 5, hPm (zad_0 m) (memL g)) := by kernel_rfl
theorem rad_0 : endsAt [0, 1, 2] (Ly.run ctx3 3000 [(4, true), (15, true)] (sR m g 173)) = some (T [inw m.pc && true, inb m.r7 && inb m.r5], .int .i64 0, 4, hRm (zad_0 m) (memL g)) := by kernel_rfl
theorem oad (hm : m.Ok) (hg : ∀ e, B8 (g e)) (hh : m.halt = false) (h0 : g (ix m.pc) = 173) : Both m g := by
  obtain ⟨r0, r1, r2, r3, r4, r5, r7, sp, pc⟩ := id hm
  cases hf : m.fc
  · exact joinA (m' := (zad_0 m)) hm hh h0 (pad_1 m g _ _) (rad_0 m g) hg
  · exact joinA (m' := (zad_0 m)) hm hh h0 (pad_0 m g _ _) (rad_0 m g) hg
@[simp] def zae_0 (m : Mc) (g : Nat → Int) : Mc := { m with fc := false, fp := par (xor8 m.r7 (g (ix (or16 (w16 (w16 m.r4 * 256)) (w16 m.r5))))), fs := decide (128 ≤ xor8 m.r7 (g (ix (or16 (w16 (w16 m.r4 * 256)) (w16 m.r5))))), fx := false, fz := xor8 m.r7 (g (ix (or16 (w16 (w16 m.r4 * 256)) (w16 m.r5)))) == 0, pc := w16 (m.pc + 1), r7 := xor8 m.r7 (g (ix (or16 (w16 (w16 m.r4 * 256)) (w16 m.r5)))) }
theorem pae_0 : endsAt [0, 1] (Ly.run ctx3 3000 [(28, true), (0, true), (13, true), (0, true), (1, true), (9, true)] (sP m g 174 b1 b2)) = some (T [(true && lt16 (or16 (w16 (w16 m.r4 * 256)) (w16 m.r5))), bl (ix (or16 (w16 (w16 m.r4 * 256)) (w16 m.r5))), (true && lt16 (or16 (w16 (w16 m.r4 * 256)) (w16 m.r5))), bl (ix (or16 (w16 (w16 m.r4 * 256)) (w16 m.r5))), m.fc == true, inb m.r7 && inb (g (ix (or16 (w16 (w16 m.r4 * 256)) (w16 m.r5))))], .int .i64 0, 5, hPm (zae_0 m g) (memL g)) := by kernel_rfl
theorem pae_1 : endsAt [0, 1] (Ly.run ctx3 3000 [(28, true), (0, true), (13, true), (0, true), (1, false), (9, true)] (sP m g 174 b1 b2)) = some ([((true && lt16 (or16 (w16 (w16 m.r4 * 256)) (w16 m.r5))), true), (bl (ix (or16 (w16 (w16 m.r4 * 256)) (w16 m.r5))), true), ((true && lt16 (or16 (w16 (w16 m.r4 * 256)) (w16 m.r5))), true), (bl (ix (or16 (w16 (w16 m.r4 * 256)) (w16 m.r5))), true), (m.fc == true, false), (inb m.r7 && inb (g (ix (or16 (w16 (w16 m.r4 * 256)) (w16 m.r5)))), true)], .int .i64 0, 5, hPm (zae_0 m g) (memL g)) := by kernel_rfl
theorem rae_0 : endsAt [0, 1, 2] (Ly.run ctx3 3000 [(4, true), (12, true), (0, true), (0, true), (8, true)] (sR m g 174)) = some (T [inw m.pc && true, inb m.r4 && inb m.r5, rg (256 * m.r4 + m.r5), bl (ix (256 * m.r4 + m.r5)), inb m.r7 && inb (g (ix (256 * m.r4 + m.r5)))], .int .i64 0, 4, hRm { m with fc := false, fp := par (xor8 m.r7 (g (ix (256 * m.r4 + m.r5)))), fs := decide (128 ≤ xor8 m.r7 (g (ix (256 * m.r4 + m.r5)))), fx := false, fz := xor8 m.r7 (g (ix (256 * m.r4 + m.r5))) == 0, pc := w16 (m.pc + 1), r7 := xor8 m.r7 (g (ix (256 * m.r4 + m.r5))) } (memL g)) := by kernel_rfl
theorem oae (hm : m.Ok) (hg : ∀ e, B8 (g e)) (hh : m.halt = false) (h0 : g (ix m.pc) = 174) : Both m g := by
  obtain ⟨r0, r1, r2, r3, r4, r5, r7, sp, pc⟩ := id hm
  cases hf : m.fc
  · exact joinA (m' := (zae_0 m g)) hm hh h0 (pae_1 m g _ _) (rae_0 m g) hg
  · exact joinA (m' := (zae_0 m g)) hm hh h0 (pae_0 m g _ _) (rae_0 m g) hg
@[simp] def zaf_0 (m : Mc) : Mc := { m with fc := false, fp := par (xor8 m.r7 m.r7), fs := decide (128 ≤ xor8 m.r7 m.r7), fx := false, fz := xor8 m.r7 m.r7 == 0, pc := w16 (m.pc + 1), r7 := xor8 m.r7 m.r7 }
theorem paf_0 : endsAt [0, 1] (Ly.run ctx3 3000 [(22, true), (9, true)] (sP m g 175 b1 b2)) = some (T [m.fc == true, inb m.r7 && inb m.r7], .int .i64 0, 5, hPm (zaf_0 m) (memL g)) := by kernel_rfl
theorem paf_1 : endsAt [0, 1] (Ly.run ctx3 3000 [(22, false), (9, true)] (sP m g 175 b1 b2)) = some ([(m.fc == true, false), (inb m.r7 && inb m.r7, true)], .int .i64 0, 5, hPm (zaf_0 m) (memL g)) := by kernel_rfl
theorem raf_0 : endsAt [0, 1, 2] (Ly.run ctx3 3000 [(4, true), (15, true)] (sR m g 175)) = some (T [inw m.pc && true, inb m.r7 && inb m.r7], .int .i64 0, 4, hRm (zaf_0 m) (memL g)) := by kernel_rfl
theorem oaf (hm : m.Ok) (hg : ∀ e, B8 (g e)) (hh : m.halt = false) (h0 : g (ix m.pc) = 175) : Both m g := by
  obtain ⟨r0, r1, r2, r3, r4, r5, r7, sp, pc⟩ := id hm
  cases hf : m.fc
  · exact joinA (m' := (zaf_0 m)) hm hh h0 (paf_1 m g _ _) (raf_0 m g) hg
  · exact joinA (m' := (zaf_0 m)) hm hh h0 (paf_0 m g _ _) (raf_0 m g) hg
theorem blk10 (m : Mc) (g : Nat → Int) (hm : m.Ok) (hg : ∀ e, B8 (g e)) (hh : m.halt = false) (h1 : 160 ≤ g (ix m.pc)) (h2 : g (ix m.pc) < 176) : Both m g := by
  have h : g (ix m.pc) = 160 ∨ g (ix m.pc) = 161 ∨ g (ix m.pc) = 162 ∨ g (ix m.pc) = 163 ∨ g (ix m.pc) = 164 ∨ g (ix m.pc) = 165 ∨ g (ix m.pc) = 166 ∨ g (ix m.pc) = 167 ∨ g (ix m.pc) = 168 ∨ g (ix m.pc) = 169 ∨ g (ix m.pc) = 170 ∨ g (ix m.pc) = 171 ∨ g (ix m.pc) = 172 ∨ g (ix m.pc) = 173 ∨ g (ix m.pc) = 174 ∨ g (ix m.pc) = 175 := by omega
  rcases h with h | h | h | h | h | h | h | h | h | h | h | h | h | h | h | h
  · exact oa0 m g hm hg hh h
  · exact oa1 m g hm hg hh h
  · exact oa2 m g hm hg hh h
  · exact oa3 m g hm hg hh h
  · exact oa4 m g hm hg hh h
  · exact oa5 m g hm hg hh h
  · exact oa6 m g hm hg hh h
  · exact oa7 m g hm hg hh h
  · exact oa8 m g hm hg hh h
  · exact oa9 m g hm hg hh h
  · exact oaa m g hm hg hh h
  · exact oab m g hm hg hh h
  · exact oac m g hm hg hh h
  · exact oad m g hm hg hh h
  · exact oae m g hm hg hh h
  · exact oaf m g hm hg hh h
end Go.Proofs.Ytpggoincnebfnaa
namespace Go.Proofs.Ytpggoincnebfnaa
open Go Go.Ly Go.RowKit
variable (m : Mc) (g : Nat → Int) (b1 b2 : Int)
@[simp] def zb0_0 (m : Mc) : Mc := { m with fc := false, fp := par (or8 m.r7 m.r0), fs := decide (128 ≤ or8 m.r7 m.r0), fx := false, fz := or8 m.r7 m.r0 == 0, pc := w16 (m.pc + 1), r7 := or8 m.r7 m.r0 }
theorem pb0_0 : endsAt [0, 1] (Ly.run ctx3 3000 [(22, true), (10, true)] (sP m g 176 b1 b2)) = some (T [m.fc == true, inb m.r7 && inb m.r0], .int .i64 0, 5, hPm (zb0_0 m) (memL g)) := by kernel_rfl
theorem pb0_1 : endsAt [0, 1] (Ly.run ctx3 3000 [(22, false), (10, true)] (sP m g 176 b1 b2)) = some ([(m.fc == true, false), (inb m.r7 && inb m.r0, true)], .int .i64 0, 5, hPm (zb0_0 m) (memL g)) := by kernel_rfl
theorem rb0_0 : endsAt [0, 1, 2] (Ly.run ctx3 3000 [(4, true), (16, true)] (sR m g 176)) = some (T [inw m.pc && true, inb m.r7 && inb m.r0], .int .i64 0, 4, hRm (zb0_0 m) (memL g)) := by kernel_rfl
theorem ob0 (hm : m.Ok) (hg : ∀ e, B8 (g e)) (hh : m.halt = false) (h0 : g (ix m.pc) = 176) : Both m g := by
  obtain ⟨r0, r1, r2, r3, r4, r5, r7, sp, pc⟩ := id hm
  cases hf : m.fc
  · exact joinA (m' := (zb0_0 m)) hm hh h0 (pb0_1 m g _ _) (rb0_0 m g) hg
  · exact joinA (m' := (zb0_0 m)) hm hh h0 (pb0_0 m g _ _) (rb0_0 m g) hg
@[simp] def zb1_0 (m : Mc) : Mc := { m with fc := false, fp := par (or8 m.r7 m.r1), fs := decide (128 ≤ or8 m.r7 m.r1), fx := false, fz := or8 m.r7 m.r1 == 0, pc := w16 (m.pc + 1), r7 := or8 m.r7 m.r1 }
theorem pb1_0 : endsAt [0, 1] (Ly.run ctx3 3000 [(22, true), (10, true)] (sP m g 177 b1 b2)) = some (T [m.fc == true, inb m.r7 && inb m.r1], .int .i64 0, 5, hPm (zb1_0 m) (memL g)) := by kernel_rfl
theorem pb1_1 : endsAt [0, 1] (Ly.run ctx3 3000 [(22, false), (10, true)] (sP m g 177 b1 b2)) = some ([(m.fc == true, false), (inb m.r7 && inb m.r1, true)], .int .i64 0, 5, hPm (zb1_0 m) (memL g)) := by kernel_rfl
theorem rb1_0 : endsAt [0, 1, 2] (Ly.run ctx3 3000 [(4, true), (16, true)] (sR m g 177)) = some (T [inw m.pc && true, inb m.r7 && inb m.r1], .int .i64 0, 4, hRm (zb1_0 m) (memL g)) := by kernel_rfl
theorem ob1 (hm : m.Ok) (hg : ∀ e, B8 (g e)) (hh : m.halt = false) (h0 : g (ix m.pc) = 177) : Both m g := by
  obtain ⟨r0, r1, r2, r3, r4, r5, r7, sp, pc⟩ := id hm
  cases hf : m.fc
  · exact joinA (m' := (zb1_0 m)) hm hh h0 (pb1_1 m g _ _) (rb1_0 m g) hg
  · exact joinA (m' := (zb1_0 m)) hm hh h0 (pb1_0 m g _ _) (rb1_0 m g) hg
@[simp] def zb2_0 (m : Mc) : Mc := { m with fc := false, fp := par (or8 m.r7 m.r2), fs := decide (128 ≤ or8 m.r7 m.r2), fx := false, fz := or8 m.r7 m.r2 == 0, pc := w16 (m.pc + 1), r7 := or8 m.r7 m.r2 }
theorem pb2_0 : endsAt [0, 1] (Ly.run ctx3 3000 [(22, true), (10, true)] (sP m g 178 b1 b2)) = some (T [m.fc == true, inb m.r7 && inb m.r2], .int .i64 0, 5, hPm (zb2_0 m) (memL g)) := by kernel_rfl
theorem pb2_1 : endsAt [0, 1] (Ly.run ctx3 3000 [(22, false), (10, true)] (sP m g 178 b1 b2)) = some ([(m.fc == true, false), (inb m.r7 && inb m.r2, true)], .int .i64 0, 5, hPm (zb2_0 m) (memL g)) := by kernel_rfl
theorem rb2_0 : endsAt [0, 1, 2] (Ly.run ctx3 3000 [(4, true), (16, true)] (sR m g 178)) = some (T [inw m.pc && true, inb m.r7 && inb m.r2], .int .i64 0, 4, hRm (zb2_0 m) (memL g)) := by kernel_rfl
theorem ob2 (hm : m.Ok) (hg : ∀ e, B8 (g e)) (hh : m.halt = false) (h0 : g (ix m.pc) = 178) : Both m g := by
  obtain ⟨r0, r1, r2, r3, r4, r5, r7, sp, pc⟩ := id hm
  cases hf : m.fc
  · exact joinA (m' := (zb2_0 m)) hm hh h0 (pb2_1 m g _ _) (rb2_0 m g) hg
  · exact joinA (m' := (zb2_0 m)) hm hh h0 (pb2_0 m g _ _) (rb2_0 m g) hg
@[simp] def zb3_0 (m : Mc) : Mc := { m with fc := false, fp := par (or8 m.r7 m.r3), fs := decide (128 ≤ or8 m.r7 m.r3), fx := false, fz := or8 m.r7 m.r3 == 0, pc := w16 (m.pc + 1), r7 := or8 m.r7 m.r3 }
theorem pb3_0 : endsAt [0, 1] (Ly.run ctx3 3000 [(22, true), (10, true)] (sP m g 179 b1 b2)) = some (T [m.fc == true, inb m.r7 && inb m.r3], .int .i64 0, 5, hPm (zb3_0 m) (memL g)) := by kernel_rfl
theorem pb3_1 : endsAt [0, 1] (Ly.run ctx3 3000 [(22, false), (10, true)] (sP m g 179 b1 b2)) = some ([(m.fc == true, false), (inb m.r7 && inb m.r3, true)], .int .i64 0, 5, hPm (zb3_0 m) (memL g)) := by kernel_rfl
theorem rb3_0 : endsAt [0, 1, 2] (Ly.run ctx3 3000 [(4, true), (16, true)] (sR m g 179)) = some (T [inw m.pc && true, inb m.r7 && inb m.r3], .int .i64 0, 4, hRm (zb3_0 m) (memL g)) := by kernel_rfl
theorem ob3 (hm : m.Ok) (hg : ∀ e, B8 (g e)) (hh : m.halt = false) (h0 : g (ix m.pc) = 179) : Both m g := by
  obtain ⟨r0, r1, r2, r3, r4, r5, r7, sp, pc⟩ := id hm
  cases hf : m.fc
  · exact joinA (m' := (zb3_0 m)) hm hh h0 (pb3_1 m g _ _) (rb3_0 m g) hg
  · exact joinA (m' := (zb3_0 m)) hm hh h0 (pb3_0 m g _ _) (rb3_0 m g) hg
@[simp] def zb4_0 (m : Mc) : Mc := { m with fc := false, fp := par (or8 m.r7 m.r4), fs := decide (128 ≤ or8 m.r7 m.r4), fx := false, fz := or8 m.r7 m.r4 == 0, pc := w16 (m.pc + 1), r7 := or8 m.r7 m.r4 }
theorem pb4_0 : endsAt [0, 1] (Ly.run ctx3 3000 [(22, true), (10, true)] (sP m g 180 b1 b2)) = some (T [m.fc == true, inb m.r7 && inb m.r4], .int .i64 0, 5, hPm (zb4_0 m) (memL g)) := by kernel_rfl
theorem pb4_1 : endsAt [0, 1] (Ly.run ctx3 3000 [(22, false), (10, true)] (sP m g 180 b1 b2)) = some ([(m.fc == true, false), (inb m.r7 && inb m.r4, true)], .int .i64 0, 5, hPm (zb4_0 m) (memL g)) := by kernel_rfl
theorem rb4_0 : endsAt [0, 1, 2] (Ly.run ctx3 3000 [(4, true), (16, true)] (sR m g 180)) = some (T [inw m.pc && true, inb m.r7 && inb m.r4], .int .i64 0, 4, hRm (zb4_0 m) (memL g)) := by kernel_rfl
theorem ob4 (hm : m.Ok) (hg : ∀ e, B8 (g e)) (hh : m.halt = false) (h0 : g (ix m.pc) = 180) : Both m g := by
  obtain ⟨r0, r1, r2, r3, r4, r5, r7, sp, pc⟩ := id hm
  cases hf : m.fc
  · exact joinA (m' := (zb4_0 m)) hm hh h0 (pb4_1 m g _ _) (rb4_0 m g) hg
  · exact joinA (m' := (zb4_0 m)) hm hh h0 (pb4_0 m g _ _) (rb4_0 m g) hg
@[simp] def zb5_0 (m : Mc) : Mc := { m with fc := false, fp := par (or8 m.r7 m.r5), fs := decide (128 ≤ or8 m.r7 m.r5), fx := false, fz := or8 m.r7 m.r5 == 0, pc := w16 (m.pc + 1), r7 := or8 m.r7 m.r5 }
theorem pb5_0 : endsAt [0, 1] (Ly.run ctx3 3000 [(22, true), (10, true)] (sP m g 181 b1 b2)) = some (T [m.fc == true, inb m.r7 && inb m.r5], .int .i64 0, 5, hPm (zb5_0 m) (memL g)) := by kernel_rfl
theorem pb5_1 : endsAt [0, 1] (Ly.run ctx3 3000 [(22, false), (10, true)] (sP m g 181 b1 b2)) = some ([(m.fc == true, false), (inb m.r7 && inb m.r5, true)], .int .i64 0, 5, hPm (zb5_0 m) (memL g)) := by kernel_rfl
theorem rb5_0 : endsAt [0, 1, 2] (Ly.run ctx3 3000 [(4, true), (16, true)] (sR m g 181)) = some (T [inw m.pc && true, inb m.r7 && inb m.r5], .int .i64 0, 4, hRm (zb5_0 m) (memL g)) := by kernel_rfl
theorem ob5 (hm : m.Ok) (hg : ∀ e, B8 (g e)) (hh : m.halt = false) (h0 : g (ix m.pc) = 181) : Both m g := by
  obtain ⟨r0, r1, r2, r3, r4, r5, r7, sp, pc⟩ := id hm
  cases hf : m.fc
  · exact joinA (m' := (zb5_0 m)) hm hh h0 (pb5_1 m g _ _) (rb5_0 m g) hg
  · exact joinA (m' := (zb5_0 m)) hm hh h0 (pb5_0 m g _ _) (rb5_0 m g) hg
@[simp] def zb6_0 (m : Mc) (g : Nat → Int) : Mc := { m with fc := false, fp := par (or8 m.r7 (g (ix (or16 (w16 (w16 m.r4 * 256)) (w16 m.r5))))), fs := decide (128 ≤ or8 m.r7 (g (ix (or16 (w16 (w16 m.r4 * 256)) (w16 m.r5))))), fx := false, fz := or8 m.r7 (g (ix (or16 (w16 (w16 m.r4 * 256)) (w16 m.r5)))) == 0, pc := w16 (m.pc + 1), r7 := or8 m.r7 (g (ix (or16 (w16 (w16 m.r4 * 256)) (w16 m.r5)))) }
theorem pb6_0 : endsAt [0, 1] (Ly.run ctx3 3000 [(28, true), (0, true), (13, true), (0, true), (1, true), (10, true)] (sP m g 182 b1 b2)) = some (T [(true && lt16 (or16 (w16 (w16 m.r4 * 256)) (w16 m.r5))), bl (ix (or16 (w16 (w16 m.r4 * 256)) (w16 m.r5))), (true && lt16 (or16 (w16 (w16 m.r4 * 256)) (w16 m.r5))), bl (ix (or16 (w16 (w16 m.r4 * 256)) (w16 m.r5))), m.fc == true, inb m.r7 && inb (g (ix (or16 (w16 (w16 m.r4 * 256)) (w16 m.r5))))], .int .i64 0, 5, hPm (zb6_0 m g) (memL g)) := by kernel_rfl
theorem pb6_1 : endsAt [0, 1] (Ly.run ctx3 3000 [(28, true), (0, true), (13, true), (0, true), (1, false), (10, true)] (sP m g 182 b1 b2)) = some ([((true && lt16 (or16 (w16 (w16 m.r4 * 256)) (w16 m.r5))), true), (bl (ix (or16 (w16 (w16 m.r4 * 256)) (w16 m.r5))), true), ((true && lt16 (or16 (w16 (w16 m.r4 * 256)) (w16 m.r5))), true), (bl (ix (or16 (w16 (w16 m.r4 * 256)) (w16 m.r5))), true), (m.fc == true, false), (inb m.r7 && inb (g (ix (or16 (w16 (w16 m.r4 * 256)) (w16 m.r5)))), true)], .int .i64 0, 5, hPm (zb6_0 m g) (memL g)) := by kernel_rfl
theorem rb6_0 : endsAt [0, 1, 2] (Ly.run ctx3 3000 [(4, true), (12, true), (0, true), (0, true), (9, true)] (sR m g 182)) = some (T [inw m.pc && true, inb m.r4 && inb m.r5, rg (256 * m.r4 + m.r5), bl (ix (256 * m.r4 + m.r5)), inb m.r7 && inb (g (ix (256 * m.r4 + m.r5)))], .int .i64 0, 4, hRm { m with fc := false, fp := par (or8 m.r7 (g (ix (256 * m.r4 + m.r5)))), fs := decide (128 ≤ or8 m.r7 (g (ix (256 * m.r4 + m.r5)))), fx := false, fz := or8 m.r7 (g (ix (256 * m.r4 + m.r5))) == 0, pc := w16 (m.pc + 1), r7 := or8 m.r7 (g (ix (256 * m.r4 + m.r5))) } (memL g)) := by kernel_rfl
theorem ob6 (hm : m.Ok) (hg : ∀ e, B8 (g e)) (hh : m.halt = false) (h0 : g (ix m.pc) = 182) : Both m g := by
  obtain ⟨r0, r1, r2, r3, r4, r5, r7, sp, pc⟩ := id hm
  cases hf : m.fc
  · exact joinA (m' := (zb6_0 m g)) hm hh h0 (pb6_1 m g _ _) (rb6_0 m g) hg
  · exact joinA (m' := (zb6_0 m g)) hm hh h0 (pb6_0 m g _ _) (rb6_0 m g) hg
@[simp] def zb7_0 (m : Mc) : Mc := { m with fc := false, fp := par (or8 m.r7 m.r7), fs := decide (128 ≤ or8 m.r7 m.r7), fx := false, fz := or8 m.r7 m.r7 == 0, pc := w16 (m.pc + 1), r7 := or8 m.r7 m.r7 }
theorem pb7_0 : endsAt [0, 1] (Ly.run ctx3 3000 [(22, true), (10, true)] (sP m g 183 b1 b2)) = some (T [m.fc == true, inb m.r7 && inb m.r7], .int .i64 0, 5, hPm (zb7_0 m) (memL g)) := by kernel_rfl
theorem pb7_1 : endsAt [0, 1] (Ly.run ctx3 3000 [(22, false), (10, true)] (sP m g 183 b1 b2)) = some ([(m.fc == true, false), (inb m.r7 && inb m.r7, true)], .int .i64 0, 5, hPm (zb7_0 m) (memL g)) := by kernel_rfl
theorem rb7_0 : endsAt [0, 1, 2] (Ly.run ctx3 3000 [(4, true), (16, true)] (sR m g 183)) = some (T [inw m.pc && true, inb m.r7 && inb m.r7], .int .i64 0, 4, hRm (zb7_0 m) (memL g)) := by kernel_rfl
theorem ob7 (hm : m.Ok) (hg : ∀ e, B8 (g e)) (hh : m.halt = false) (h0 : g (ix m.pc) = 183) : Both m g := by
  obtain ⟨r0, r1, r2, r3, r4, r5, r7, sp, pc⟩ := id hm
  cases hf : m.fc
  · exact joinA (m' := (zb7_0 m)) hm hh h0 (pb7_1 m g _ _) (rb7_0 m g) hg
  · exact joinA (m' := (zb7_0 m)) hm hh h0 (pb7_0 m g _ _) (rb7_0 m g) hg
@[simp] def zb8_0 (m : Mc) : Mc := { m with fc := decide (m.r7 - m.r0 - 0 < 0), fp := par ((m.r7 - m.r0 - 0) % 256), fs := decide (128 ≤ (m.r7 - m.r0 - 0) % 256), fx := decide (15 < m.r7 % 16 + 15 - m.r0 % 16 + 1), fz := (m.r7 - m.r0 - 0) % 256 == 0, pc := w16 (m.pc + 1) }
theorem pb8_0 : endsAt [0, 1] (Ly.run ctx3 3000 [(22, true), (11, true)] (sP m g 184 b1 b2)) = some (T [m.fc == true, inb m.r7 && inb m.r0], .int .i64 0, 5, hPm (zb8_0 m) (memL g)) := by kernel_rfl
theorem pb8_1 : endsAt [0, 1] (Ly.run ctx3 3000 [(22, false), (11, true)] (sP m g 184 b1 b2)) = some ([(m.fc == true, false), (inb m.r7 && inb m.r0, true)], .int .i64 0, 5, hPm (zb8_0 m) (memL g)) := by kernel_rfl
theorem rb8_0 : endsAt [0, 1, 2] (Ly.run ctx3 3000 [(4, true), (19, true)] (sR m g 184)) = some (T [inw m.pc && true, inb m.r7 && inb m.r0], .int .i64 0, 4, hRm (zb8_0 m) (memL g)) := by kernel_rfl
theorem ob8 (hm : m.Ok) (hg : ∀ e, B8 (g e)) (hh : m.halt = false) (h0 : g (ix m.pc) = 184) : Both m g := by
  obtain ⟨r0, r1, r2, r3, r4, r5, r7, sp, pc⟩ := id hm
  cases hf : m.fc
  · exact joinA (m' := (zb8_0 m)) hm hh h0 (pb8_1 m g _ _) (rb8_0 m g) hg
  · exact joinA (m' := (zb8_0 m)) hm hh h0 (pb8_0 m g _ _) (rb8_0 m g) hg
@[simp] def zb9_0 (m : Mc) : Mc := { m with fc := decide (m.r7 - m.r1 - 0 < 0), fp := par ((m.r7 - m.r1 - 0) % 256), fs := decide (128 ≤ (m.r7 - m.r1 - 0) % 256), fx := decide (15 < m.r7 % 16 + 15 - m.r1 % 16 + 1), fz := (m.r7 - m.r1 - 0) % 256 == 0, pc := w16 (m.pc + 1) }
theorem pb9_0 : endsAt [0, 1] (Ly.run ctx3 3000 [(22, true), (11, true)] (sP m g 185 b1 b2)) = some (T [m.fc == true, inb m.r7 && inb m.r1], .int .i64 0, 5, hPm (zb9_0 m) (memL g)) := by kernel_rfl
theorem pb9_1 : endsAt [0, 1] (Ly.run ctx3 3000 [(22, false), (11, true)] (sP m g 185 b1 b2)) = some ([(m.fc == true, false), (inb m.r7 && inb m.r1, true)], .int .i64 0, 5, hPm (zb9_0 m) (memL g)) := by kernel_rfl
theorem rb9_0 : endsAt [0, 1, 2] (Ly.run ctx3 3000 [(4, true), (19, true)] (sR m g 185)) = some (T [inw m.pc && true, inb m.r7 && inb m.r1], .int .i64 0, 4, hRm (zb9_0 m) (memL g)) := by kernel_rfl
theorem ob9 (hm : m.Ok) (hg : ∀ e, B8 (g e)) (hh : m.halt = false) (h0 : g (ix m.pc) = 185) : Both m g := by
  obtain ⟨r0, r1, r2, r3, r4, r5, r7, sp, pc⟩ := id hm
  cases hf : m.fc
  · exact joinA (m' := (zb9_0 m)) hm hh h0 (pb9_1 m g _ _) (rb9_0 m g) hg
  · exact joinA (m' := (zb9_0 m)) hm hh h0 (pb9_0 m g _ _) (rb9_0 m g) hg
@[simp] def zba_0 (m : Mc) : Mc := { m with fc := decide (m.r7 - m.r2 - 0 < 0), fp := par ((m.r7 - m.r2 - 0) % 256), fs := decide (128 ≤ (m.r7 - m.r2 - 0) % 256), fx := decide (15 < m.r7 % 16 + 15 - m.r2 % 16 + 1), fz := (m.r7 - m.r2 - 0) % 256 == 0, pc := w16 (m.pc + 1) }
theorem pba_0 : endsAt [0, 1] (Ly.run ctx3 3000 [(22, true), (11, true)] (sP m g 186 b1 b2)) = some (T [m.fc == true, inb m.r7 && inb m.r2], .int .i64 0, 5, hPm (zba_0 m) (memL g)) := by kernel_rfl
theorem pba_1 : endsAt [0, 1] (Ly.run ctx3 3000 [(22, false), (11, true)] (sP m g 186 b1 b2)) = some ([(m.fc == true, false), (inb m.r7 && inb m.r2, true)], .int .i64 0, 5, hPm (zba_0 m) (memL g)) := by kernel_rfl
theorem rba_0 : endsAt [0, 1, 2] (Ly.run ctx3 3000 [(4, true), (19, true)] (sR m g 186)) = some (T [inw m.pc && true, inb m.r7 && inb m.r2], .int .i64 0, 4, hRm (zba_0 m) (memL g)) := by kernel_rfl
theorem oba (hm : m.Ok) (hg : ∀ e, B8 (g e)) (hh : m.halt = false) (h0 : g (ix m.pc) = 186) : Both m g := by
  obtain ⟨r0, r1, r2, r3, r4, r5, r7, sp, pc⟩ := id hm
  cases hf : m.fc
  · exact joinA (m' := (zba_0 m)) hm hh h0 (pba_1 m g _ _) (rba_0 m g) hg
  · exact joinA (m' := (zba_0 m)) hm hh h0 (pba_0 m g _ _) (rba_0 m g) hg
@[simp] def zbb_0 (m : Mc) : Mc := { m with fc := decide (m.r7 - m.r3 - 0 < 0), fp := par ((m.r7 - m.r3 - 0) % 256), fs := decide (128 ≤ (m.r7 - m.r3 - 0) % 256), fx := decide (15 < m.r7 % 16 + 15 - m.r3 % 16 + 1), fz := (m.r7 - m.r3 - 0) % 256 == 0, pc := w16 (m.pc + 1) }
theorem pbb_0 : endsAt [0, 1] (Ly.run ctx3 3000 [(22, true), (11, true)] (sP m g 187 b1 b2)) = some (T [m.fc == true, inb m.r7 && inb m.r3], .int .i64 0, 5, hPm (zbb_0 m) (memL g)) := by kernel_rfl
theorem pbb_1 : endsAt [0, 1] (Ly.run ctx3 3000 [(22, false), (11, true)] (sP m g 187 b1 b2)) = some ([(m.fc == true, false), (inb m.r7 && inb m.r3, true)], .int .i64 0, 5, hPm (zbb_0 m) (memL g)) := by kernel_rfl
theorem rbb_0 : endsAt [0, 1, 2] (Ly.run ctx3 3000 [(4, true), (19, true)] (sR m g 187)) = some (T [inw m.pc && true, inb m.r7 && inb m.r3], .int .i64 0, 4, hRm (zbb_0 m) (memL g)) := by kernel_rfl
theorem obb (hm : m.Ok) (hg : ∀ e, B8 (g e)) (hh : m.halt = false) (h0 : g (ix m.pc) = 187) : Both m g := by
  obtain ⟨r0, r1, r2, r3, r4, r5, r7, sp, pc⟩ := id hm
  cases hf : m.fc
  · exact joinA (m' := (zbb_0 m)) hm hh h0 (pbb_1 m g _ _) (rbb_0 m g) hg
  · exact joinA (m' := (zbb_0 m)) hm hh h0 (pbb_0 m g _ _) (rbb_0 m g) hg
@[simp] def zbc_0 (m : Mc) : Mc := { m with fc := decide (m.r7 - m.r4 - 0 < 0), fp := par ((m.r7 - m.r4 - 0) % 256), fs := decide (128 ≤ (m.r7 - m.r4 - 0) % 256), fx := decide (15 < m.r7 % 16 + 15 - m.r4 % 16 + 1), fz := (m.r7 - m.r4 - 0) % 256 == 0, pc := w16 (m.pc + 1) }
theorem pbc_0 : endsAt [0, 1] (Ly.run ctx3 3000 [(22, true), (11, true)] (sP m g 188 b1 b2)) = some (T [m.fc == true, inb m.r7 && inb m.r4], .int .i64 0, 5, hPm (zbc_0 m) (memL g)) := by kernel_rfl
theorem pbc_1 : endsAt [0, 1] (Ly.run ctx3 3000 [(22, false), (11, true)] (sP m g 188 b1 b2)) = some ([(m.fc == true, false), (inb m.r7 && inb m.r4, true)], .int .i64 0, 5, hPm (zbc_0 m) (memL g)) := by kernel_rfl
theorem rbc_0 : endsAt [0, 1, 2] (Ly.run ctx3 3000 [(4, true), (19, true)] (sR m g 188)) = some (T [inw m.pc && true, inb m.r7 && inb m.r4], .int .i64 0, 4, hRm (zbc_0 m) (memL g)) := by kernel_rfl
theorem obc (hm : m.Ok) (hg : ∀ e, B8 (g e)) (hh : m.halt = false) (h0 : g (ix m.pc) = 188) : Both m g := by
  obtain ⟨r0, r1, r2, r3, r4, r5, r7, sp, pc⟩ := id hm
  cases hf : m.fc
  · exact joinA (m' := (zbc_0 m)) hm hh h0 (pbc_1 m g _ _) (rbc_0 m g) hg
  · exact joinA (m' := (zbc_0 m)) hm hh h0 (pbc_0 m g _ _) (rbc_0 m g) hg
@[simp] def zbd_0 (m : Mc) : Mc := { m with fc := decide (m.r7 - m.r5 - 0 < 0), fp := par ((m.r7 - m.r5 - 0) % 256), fs := decide (128 ≤ (m.r7 - m.r5 - 0) % 256), fx := decide (15 < m.r7 % 16 + 15 - m.r5 % 16 + 1), fz := (m.r7 - m.r5 - 0) % 256 == 0, pc := w16 (m.pc + 1) }
theorem pbd_0 : endsAt [0, 1] (Ly.run ctx3 3000 [(22, true), (11, true)] (sP m g 189 b1 b2)) = some (T [m.fc == true, inb m.r7 && inb m.r5], .int .i64 0, 5, hPm (zbd_0 m) (memL g)) := by kernel_rfl
theorem pbd_1 : endsAt [0, 1] (Ly.run ctx3 3000 [(22, false), (11, true)] (sP m g 189 b1 b2)) = some ([(m.fc == true, false), (inb m.r7 && inb m.r5, true)], .int .i64 0, 5, hPm (zbd_0 m) (memL g)) := by kernel_rfl
theorem rbd_0 : endsAt [0, 1, 2] (Ly.run ctx3 3000 [(4, true), (19, true)] (sR m g 189)) = some (T [inw m.pc && true, inb m.r7 && inb m.r5], .int .i64 0, 4, hRm (zbd_0 m) (memL g)) := by kernel_rfl
theorem obd (hm : m.Ok) (hg : ∀ e, B8 (g e)) (hh : m.halt = false) (h0 : g (ix m.pc) = 189) : Both m g := by
  obtain ⟨r0, r1, r2, r3, r4, r5, r7, sp, pc⟩ := id hm
  cases hf : m.fc
  · exact joinA (m' := (zbd_0 m)) hm hh h0 (pbd_1 m g _ _) (rbd_0 m g) hg
  · exact joinA (m' := (zbd_0 m)) hm hh h0 (pbd_0 m g _ _) (rbd_0 m g) hg
@[simp] def zbe_0 (m : Mc) (g : Nat → Int) : Mc := { m with fc := decide (m.r7 - g (ix (or16 (w16 (w16 m.r4 * 256)) (w16 m.r5))) - 0 < 0), fp := par ((m.r7 - g (ix (or16 (w16 (w16 m.r4 * 256)) (w16 m.r5))) - 0) % 256), fs := decide (128 ≤ (m.r7 - g (ix (or16 (w16 (w16 m.r4 * 256)) (w16 m.r5))) - 0) % 256), fx := decide (15 < m.r7 % 16 + 15 - g (ix (or16 (w16 (w16 m.r4 * 256)) (w16 m.r5))) % 16 + 1), fz := (m.r7 - g (ix (or16 (w16 (w16 m.r4 * 256)) (w16 m.r5))) - 0) % 256 == 0, pc := w16 (m.pc + 1) }
theorem pbe_0 : endsAt [0, 1] (Ly.run ctx3 3000 [(28, true), (0, true), (13, true), (0, true), (1, true), (11, true)] (sP m g 190 b1 b2)) = some (T [(true && lt16 (or16 (w16 (w16 m.r4 * 256)) (w16 m.r5))), bl (ix (or16 (w16 (w16 m.r4 * 256)) (w16 m.r5))), (true && lt16 (or16 (w16 (w16 m.r4 * 256)) (w16 m.r5))), bl (ix (or16 (w16 (w16 m.r4 * 256)) (w16 m.r5))), m.fc == true, inb m.r7 && inb (g (ix (or16 (w16 (w16 m.r4 * 256)) (w16 m.r5))))], .int .i64 0, 5, hPm (zbe_0 m g) (memL g)) := by kernel_rfl
theorem pbe_1 : endsAt [0, 1] (Ly.run ctx3 3000 [(28, true), (0, true), (13, true), (0, true), (1, false), (11, true)] (sP m g 190 b1 b2)) = some ([((true && lt16 (or16 (w16 (w16 m.r4 * 256)) (w16 m.r5))), true), (bl (ix (or16 (w16 (w16 m.r4 * 256)) (w16 m.r5))), true), ((true && lt16 (or16 (w16 (w16 m.r4 * 256)) (w16 m.r5))), true), (bl (ix (or16 (w16 (w16 m.r4 * 256)) (w16 m.r5))), true), (m.fc == true, false), (inb m.r7 && inb (g (ix (or16 (w16 (w16 m.r4 * 256)) (w16 m.r5)))), true)], .int .i64 0, 5, hPm (zbe_0 m g) (memL g)) := by kernel_rfl
theorem rbe_0 : endsAt [0, 1, 2] (Ly.run ctx3 3000 [(4, true), (12, true), (0, true), (0, true), (12, true)] (sR m g 190)) = some (T [inw m.pc && true, inb m.r4 && inb m.r5, rg (256 * m.r4 + m.r5), bl (ix (256 * m.r4 + m.r5)), inb m.r7 && inb (g (ix (256 * m.r4 + m.r5)))], .int .i64 0, 4, hRm { m with fc := decide (m.r7 - g (ix (256 * m.r4 + m.r5)) - 0 < 0), fp := par ((m.r7 - g (ix (256 * m.r4 + m.r5)) - 0) % 256), fs := decide (128 ≤ (m.r7 - g (ix (256 * m.r4 + m.r5)) - 0) % 256), fx := decide (15 < m.r7 % 16 + 15 - g (ix (256 * m.r4 + m.r5)) % 16 + 1), fz := (m.r7 - g (ix (256 * m.r4 + m.r5)) - 0) % 256 == 0, pc := w16 (m.pc + 1) } (memL g)) := by kernel_rfl
theorem obe (hm : m.Ok) (hg : ∀ e, B8 (g e)) (hh : m.halt = false) (h0 : g (ix m.pc) = 190) : Both m g := by
  obtain ⟨r0, r1, r2, r3, r4, r5, r7, sp, pc⟩ := id hm
  cases hf : m.fc
  · exact joinA (m' := (zbe_0 m g)) hm hh h0 (pbe_1 m g _ _) (rbe_0 m g) hg
  · exact joinA (m' := (zbe_0 m g)) hm hh h0 (pbe_0 m g _ _) (rbe_0 m g) hg
@[simp] def zbf_0 (m : Mc) : Mc := { m with fc := decide (m.r7 - m.r7 - 0 < 0), fp := par ((m.r7 - m.r7 - 0) % 256), fs := decide (128 ≤ (m.r7 - m.r7 - 0) % 256), fx := decide (15 < m.r7 % 16 + 15 - m.r7 % 16 + 1), fz := (m.r7 - m.r7 - 0) % 256 == 0, pc := w16 (m.pc + 1) }
theorem pbf_0 : endsAt [0, 1] (Ly.run ctx3 3000 [(22, true), (11, true)] (sP m g 191 b1 b2)) = some (T [m.fc == true, inb m.r7 && inb m.r7], .int .i64 0, 5, hPm (zbf_0 m) (memL g)) := by kernel_rfl
theorem pbf_1 : endsAt [0, 1] (Ly.run ctx3 3000 [(22, false), (11, true)] (sP m g 191 b1 b2)) = some ([(m.fc == true, false), (inb m.r7 && inb m.r7, true)], .int .i64 0, 5, hPm (zbf_0 m) (memL g)) := by kernel_rfl
theorem rbf_0 : endsAt [0, 1, 2] (Ly.run ctx3 3000 [(4, true), (19, true)] (sR m g 191)) = some (T [inw m.pc && true, inb m.r7 && inb m.r7], .int .i64 0, 4, hRm (zbf_0 m) (memL g)) := by kernel_rfl
theorem obf (hm : m.Ok) (hg : ∀ e, B8 (g e)) (hh : m.halt = false) (h0 : g (ix m.pc) = 191) : Both m g := by
  obtain ⟨r0, r1, r2, r3, r4, r5, r7, sp, pc⟩ := id hm
  cases hf : m.fc
  · exact joinA (m' := (zbf_0 m)) hm hh h0 (pbf_1 m g _ _) (rbf_0 m g) hg
  · exact joinA (m' := (zbf_0 m)) hm hh h0 (pbf_0 m g _ _) (rbf_0 m g) hg
theorem blk11 (m : Mc) (g : Nat → Int) (hm : m.Ok) (hg : ∀ e, B8 (g e)) (hh : m.halt = false) (h1 : 176 ≤ g (ix m.pc)) (h2 : g (ix m.pc) < 192) : Both m g := by
  have h : g (ix m.pc) = 176 ∨ g (ix m.pc) = 177 ∨ g (ix m.pc) = 178 ∨ g (ix m.pc) = 179 ∨ g (ix m.pc) = 180 ∨ g (ix m.pc) = 181 ∨ g (ix m.pc) = 182 ∨ g (ix m.pc) = 183 ∨ g (ix m.pc) = 184 ∨ g (ix m.pc) = 185 ∨ g (ix m.pc) = 186 ∨ g (ix m.pc) = 187 ∨ g (ix m.pc) = 188 ∨ g (ix m.pc) = 189 ∨ g (ix m.pc) = 190 ∨ g (ix m.pc) = 191 := by omega
  rcases h with h | h | h | h | h | h | h | h | h | h | h | h | h | h | h | h
  · exact ob0 m g hm hg hh h
  · exact ob1 m g hm hg hh h
  · exact ob2 m g hm hg hh h
  · exact ob3 m g hm hg hh h
  · exact ob4 m g hm hg hh h
  · exact ob5 m g hm hg hh h
  · exact ob6 m g hm hg hh h
  · exact ob7 m g hm hg hh h
  · exact ob8 m g hm hg hh h
  · exact ob9 m g hm hg hh h
  · exact oba m g hm hg hh h
  · exact obb m g hm hg hh h
  · exact obc m g hm hg hh h
  · exact obd m g hm hg hh h
  · exact obe m g hm hg hh h
  · exact obf m g hm hg hh h
end Go.Proofs.Ytpggoincnebfnaa
end
