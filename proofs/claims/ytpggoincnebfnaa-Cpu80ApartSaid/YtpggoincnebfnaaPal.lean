/- Part 12 of the texts that the law needs, laid together. By program (pack.py). -/
import Derived.Test.YtpggoincnebfnaaPag
import Derived.Test.YtpggoincnebfnaaPah
import Derived.Test.YtpggoincnebfnaaPai
import Derived.Test.YtpggoincnebfnaaPaj
import Derived.Test.YtpggoincnebfnaaPak
import Derived.KernelRfl
set_option linter.unusedVariables false
set_option linter.unusedSimpArgs false
noncomputable section
namespace Go.Proofs.Ytpggoincnebfnaa
open Go Go.Ly Go.RowKit
variable (m : Mc) (g : Nat → Int) (b1 b2 : Int)
@[simp] def zf0_0 (m : Mc) (g : Nat → Int) : Mc := { m with pc := or16 (w16 (g (ix (w16 (w16 (m.sp + 2) - 2))))) (w16 (w16 (g (ix (w16 (w16 (w16 (m.sp + 2) - 2) + 1)))) * 256)), sp := w16 (m.sp + 2) }
theorem pf0_0 : endsAt [0, 1] (Ly.run ctx3 3000 [(43, true), (0, true), (0, true), (0, true), (0, true)] (sP m g 240 b1 b2)) = some (T [m.fs == false, rg (w16 (w16 (m.sp + 2) - 2)), bl (ix (w16 (w16 (m.sp + 2) - 2))), rg (w16 (w16 (w16 (m.sp + 2) - 2) + 1)), bl (ix (w16 (w16 (w16 (m.sp + 2) - 2) + 1)))], .int .i64 0, 6, hPm (zf0_0 m g) (memL g)) := by kernel_rfl
theorem pf0_1 : endsAt [0, 1] (Ly.run ctx3 3000 [(43, false)] (sP m g 240 b1 b2)) = some ([(m.fs == false, false)], .int .i64 0, 6, hPm { m with pc := w16 (m.pc + 1) } (memL g)) := by kernel_rfl
theorem rf0_0 : endsAt [0, 1, 2] (Ly.run ctx3 3000 [(4, true), (52, true), (0, true), (0, true), (0, true), (0, true), (0, true), (0, true), (0, true)] (sR m g 240)) = some (T [inw m.pc && true, !m.fs, inw m.sp && true, rg (w16 (m.sp + 1)), bl (ix (w16 (m.sp + 1))), rg (m.sp), bl (ix m.sp), inb (g (ix (w16 (m.sp + 1)))) && inb (g (ix m.sp)), inw m.sp && true], .int .i64 0, 4, hRm { m with pc := 256 * g (ix (w16 (m.sp + 1))) + g (ix m.sp), sp := w16 (m.sp + 2) } (memL g)) := by kernel_rfl
theorem rf0_1 : endsAt [0, 1, 2] (Ly.run ctx3 3000 [(4, true), (52, false)] (sR m g 240)) = some ([(inw m.pc && true, true), (!m.fs, false)], .int .i64 0, 4, hRm { m with pc := w16 (m.pc + 1) } (memL g)) := by kernel_rfl
theorem of0 (hm : m.Ok) (hg : ∀ e, B8 (g e)) (hh : m.halt = false) (h0 : g (ix m.pc) = 240) : Both m g := by
  obtain ⟨r0, r1, r2, r3, r4, r5, r7, sp, pc⟩ := id hm
  cases hf : m.fs
  · exact joinA (m' := (zf0_0 m g)) hm hh h0 (pf0_0 m g _ _) (rf0_0 m g) hg
  · exact joinA (m' := { m with pc := w16 (m.pc + 1) }) hm hh h0 (pf0_1 m g _ _) (rf0_1 m g) hg
@[simp] def zf1_0 (m : Mc) (g : Nat → Int) : Mc := { m with fc := w8 (or16 (w16 (g (ix (w16 (w16 (m.sp + 2) - 2))))) (w16 (w16 (g (ix (w16 (w16 (w16 (m.sp + 2) - 2) + 1)))) * 256))) % 2 == 1, fp := w8 (or16 (w16 (g (ix (w16 (w16 (m.sp + 2) - 2))))) (w16 (w16 (g (ix (w16 (w16 (w16 (m.sp + 2) - 2) + 1)))) * 256))) / 4 % 2 == 1, fs := decide (128 ≤ w8 (or16 (w16 (g (ix (w16 (w16 (m.sp + 2) - 2))))) (w16 (w16 (g (ix (w16 (w16 (w16 (m.sp + 2) - 2) + 1)))) * 256)))), fx := w8 (or16 (w16 (g (ix (w16 (w16 (m.sp + 2) - 2))))) (w16 (w16 (g (ix (w16 (w16 (w16 (m.sp + 2) - 2) + 1)))) * 256))) / 16 % 2 == 1, fz := w8 (or16 (w16 (g (ix (w16 (w16 (m.sp + 2) - 2))))) (w16 (w16 (g (ix (w16 (w16 (w16 (m.sp + 2) - 2) + 1)))) * 256))) / 64 % 2 == 1, pc := w16 (m.pc + 1), r7 := w8 ((or16 (w16 (g (ix (w16 (w16 (m.sp + 2) - 2))))) (w16 (w16 (g (ix (w16 (w16 (w16 (m.sp + 2) - 2) + 1)))) * 256))).fdiv 256), sp := w16 (m.sp + 2) }
theorem pf1_0 : endsAt [0, 1] (Ly.run ctx3 3000 [(45, true), (0, true), (0, true), (0, true), (3, true)] (sP m g 241 b1 b2)) = some (T [rg (w16 (w16 (m.sp + 2) - 2)), bl (ix (w16 (w16 (m.sp + 2) - 2))), rg (w16 (w16 (w16 (m.sp + 2) - 2) + 1)), bl (ix (w16 (w16 (w16 (m.sp + 2) - 2) + 1))), inb (w8 (or16 (w16 (g (ix (w16 (w16 (m.sp + 2) - 2))))) (w16 (w16 (g (ix (w16 (w16 (w16 (m.sp + 2) - 2) + 1)))) * 256))))], .int .i64 0, 5, hPm (zf1_0 m g) (memL g)) := by kernel_rfl
theorem rf1_0 : endsAt [0, 1, 2] (Ly.run ctx3 3000 [(4, true), (33, true), (0, true), (0, true), (0, true), (0, true), (0, true), (0, true), (2, true)] (sR m g 241)) = some (T [inw m.pc && true, inw m.sp && true, rg (w16 (m.sp + 1)), bl (ix (w16 (m.sp + 1))), rg (m.sp), bl (ix m.sp), inb (g (ix (w16 (m.sp + 1)))) && inb (g (ix m.sp)), inw m.sp && true, inb (w8 (and16 (256 * g (ix (w16 (m.sp + 1))) + g (ix m.sp)) 255))], .int .i64 0, 3, hRm { m with fc := w8 (and16 (256 * g (ix (w16 (m.sp + 1))) + g (ix m.sp)) 255) % 2 == 1, fp := w8 (and16 (256 * g (ix (w16 (m.sp + 1))) + g (ix m.sp)) 255) / 4 % 2 == 1, fs := decide (128 ≤ w8 (and16 (256 * g (ix (w16 (m.sp + 1))) + g (ix m.sp)) 255)), fx := w8 (and16 (256 * g (ix (w16 (m.sp + 1))) + g (ix m.sp)) 255) / 16 % 2 == 1, fz := w8 (and16 (256 * g (ix (w16 (m.sp + 1))) + g (ix m.sp)) 255) / 64 % 2 == 1, pc := w16 (m.pc + 1), r7 := w8 ((256 * g (ix (w16 (m.sp + 1))) + g (ix m.sp)).fdiv 256), sp := w16 (m.sp + 2) } (memL g)) := by kernel_rfl
theorem of1 (hm : m.Ok) (hg : ∀ e, B8 (g e)) (hh : m.halt = false) (h0 : g (ix m.pc) = 241) : Both m g := by
  obtain ⟨r0, r1, r2, r3, r4, r5, r7, sp, pc⟩ := id hm
  exact joinA (m' := (zf1_0 m g)) hm hh h0 (pf1_0 m g _ _) (rf1_0 m g) hg
theorem pf2_0 : endsAt [0, 1] (Ly.run ctx3 3000 [(51, true)] (sP m g 242 b1 b2)) = some (T [m.fs == false], .int .i64 0, 6, hPm { m with pc := or16 (w16 (or16 0 (w16 b2) * 256)) (w16 b1) } (memL g)) := by kernel_rfl
theorem pf2_1 : endsAt [0, 1] (Ly.run ctx3 3000 [(51, false)] (sP m g 242 b1 b2)) = some ([(m.fs == false, false)], .int .i64 0, 6, hPm { m with pc := w16 (m.pc + 3) } (memL g)) := by kernel_rfl
theorem rf2_0 : endsAt [0, 1, 2] (Ly.run ctx3 3000 [(3, true), (0, true), (0, true), (1, true), (0, true), (0, true), (0, true), (62, true)] (sR m g 242)) = some (T [inw m.pc && true, rg (w16 (m.pc + 1)), bl (ix (w16 (m.pc + 1))), inw m.pc && true, rg (w16 (m.pc + 2)), bl (ix (w16 (m.pc + 2))), inw m.pc && true, !m.fs], .int .i64 0, 4, hRm { m with pc := w16 (w16 (g (ix (w16 (m.pc + 1)))) + w16 (w16 (g (ix (w16 (m.pc + 2)))) * 256)) } (memL g)) := by kernel_rfl
theorem rf2_1 : endsAt [0, 1, 2] (Ly.run ctx3 3000 [(3, true), (0, true), (0, true), (1, true), (0, true), (0, true), (0, true), (62, false)] (sR m g 242)) = some ([(inw m.pc && true, true), (rg (w16 (m.pc + 1)), true), (bl (ix (w16 (m.pc + 1))), true), (inw m.pc && true, true), (rg (w16 (m.pc + 2)), true), (bl (ix (w16 (m.pc + 2))), true), (inw m.pc && true, true), (!m.fs, false)], .int .i64 0, 4, hRm { m with pc := w16 (m.pc + 3) } (memL g)) := by kernel_rfl
theorem of2 (hm : m.Ok) (hg : ∀ e, B8 (g e)) (hh : m.halt = false) (h0 : g (ix m.pc) = 242) : Both m g := by
  obtain ⟨r0, r1, r2, r3, r4, r5, r7, sp, pc⟩ := id hm
  cases hf : m.fs
  · exact joinA (m' := { m with pc := or16 (w16 (or16 0 (w16 (g (at1 m.pc 2))) * 256)) (w16 (g (at1 m.pc 1))) }) hm hh h0 (pf2_0 m g _ _) (rf2_0 m g) hg
  · exact joinA (m' := { m with pc := w16 (m.pc + 3) }) hm hh h0 (pf2_1 m g _ _) (rf2_1 m g) hg
@[simp] def zf3_0 (m : Mc) : Mc := { m with ie := false, pc := w16 (m.pc + 1) }
theorem pf3_0 : endsAt [0, 1] (Ly.run ctx3 3000 [] (sP m g 243 b1 b2)) = some (T [], .int .i64 0, 5, hPm (zf3_0 m) (memL g)) := by kernel_rfl
theorem rf3_0 : endsAt [0, 1, 2] (Ly.run ctx3 3000 [(4, true), (70, true)] (sR m g 243)) = some (T [inw m.pc && true, inb m.r4 && inb m.r5], .int .i64 0, 3, hRm (zf3_0 m) (memL g)) := by kernel_rfl
theorem of3 (hm : m.Ok) (hg : ∀ e, B8 (g e)) (hh : m.halt = false) (h0 : g (ix m.pc) = 243) : Both m g := by
  obtain ⟨r0, r1, r2, r3, r4, r5, r7, sp, pc⟩ := id hm
  exact joinA (m' := (zf3_0 m)) hm hh h0 (pf3_0 m g _ _) (rf3_0 m g) hg
theorem pf4_0 : endsAt [0, 1] (Ly.run ctx3 3000 [(53, true), (3, true), (0, true), (2, true), (0, true)] (sP m g 244 b1 b2)) = some (T [m.fs == false, rg (w16 (m.sp - 2)), bl (ix (w16 (m.sp - 2))), rg (w16 (w16 (m.sp - 2) + 1)), bl (ix (w16 (w16 (m.sp - 2) + 1)))], .int .i64 0, 7, hPm { m with pc := or16 (w16 (or16 0 (w16 b2) * 256)) (w16 b1), sp := w16 (m.sp - 2) } (M2 g (ix (w16 (m.sp - 2))) (w8 (w16 (m.pc + 3))) (ix (w16 (w16 (m.sp - 2) + 1))) (w8 ((w16 (m.pc + 3)).fdiv 256)))) := by kernel_rfl
theorem pf4_1 : endsAt [0, 1] (Ly.run ctx3 3000 [(53, false)] (sP m g 244 b1 b2)) = some ([(m.fs == false, false)], .int .i64 0, 6, hPm { m with pc := w16 (m.pc + 3) } (memL g)) := by kernel_rfl
theorem rf4_0 : endsAt [0, 1, 2] (Ly.run ctx3 3000 [(3, true), (0, true), (0, true), (1, true), (0, true), (0, true), (0, true), (72, true), (0, true), (0, true), (1, true), (0, true), (0, true), (0, true)] (sR m g 244)) = some (T [inw m.pc && true, rg (w16 (m.pc + 1)), bl (ix (w16 (m.pc + 1))), inw m.pc && true, rg (w16 (m.pc + 2)), bl (ix (w16 (m.pc + 2))), inw m.pc && true, !m.fs, inw m.sp && true, inw (w16 (m.sp + -2)) && true, rg (w16 (w16 (m.sp + -2) + 1)), bl (ix (w16 (w16 (m.sp + -2) + 1))), rg (w16 (m.sp + -2)), bl (ix (w16 (m.sp + -2)))], .int .i64 0, 4, hRm { m with pc := w16 (w16 (g (ix (w16 (m.pc + 1)))) + w16 (w16 (g (ix (w16 (m.pc + 2)))) * 256)), sp := w16 (m.sp + -2) } (M2 g (ix (w16 (w16 (m.sp + -2) + 1))) (w8 ((w16 (m.pc + 3)).fdiv 256)) (ix (w16 (m.sp + -2))) (w8 (and16 (w16 (m.pc + 3)) 255)))) := by kernel_rfl
theorem rf4_1 : endsAt [0, 1, 2] (Ly.run ctx3 3000 [(3, true), (0, true), (0, true), (1, true), (0, true), (0, true), (0, true), (72, false)] (sR m g 244)) = some ([(inw m.pc && true, true), (rg (w16 (m.pc + 1)), true), (bl (ix (w16 (m.pc + 1))), true), (inw m.pc && true, true), (rg (w16 (m.pc + 2)), true), (bl (ix (w16 (m.pc + 2))), true), (inw m.pc && true, true), (!m.fs, false)], .int .i64 0, 4, hRm { m with pc := w16 (m.pc + 3) } (memL g)) := by kernel_rfl
theorem of4 (hm : m.Ok) (hg : ∀ e, B8 (g e)) (hh : m.halt = false) (h0 : g (ix m.pc) = 244) : Both m g := by
  obtain ⟨r0, r1, r2, r3, r4, r5, r7, sp, pc⟩ := id hm
  cases hf : m.fs
  · exact join (m' := { m with pc := or16 (w16 (or16 0 (w16 (g (at1 m.pc 2))) * 256)) (w16 (g (at1 m.pc 1))), sp := w16 (m.sp - 2) }) (g' := (upd (upd g (ix (w16 (m.sp - 2))) (w8 (w16 (m.pc + 3)))) (ix (w16 (w16 (m.sp - 2) + 1))) (w8 ((w16 (m.pc + 3)).fdiv 256)))) hm hh h0 (pf4_0 m g _ _) (rf4_0 m g) (by simp [*]) (by simp [*]) (by decide) (by decide) (eP (m2s rfl rfl rfl rfl)) (eR (by simp [*]) (m2c (by simp [*]) (by simp [*]) (by simp [*]) (by simp [*]) (by simp [*]))) (by constructor <;> simp [*]) (upd_b8 (upd_b8 hg (by simp [*])) (by simp [*]))
  · exact joinA (m' := { m with pc := w16 (m.pc + 3) }) hm hh h0 (pf4_1 m g _ _) (rf4_1 m g) hg
@[simp] def zf5_0 (m : Mc) : Mc := { m with pc := w16 (m.pc + 1), sp := w16 (m.sp - 2) }
theorem pf5_0 : endsAt [0, 1] (Ly.run ctx3 3000 [(59, true), (0, true), (2, true), (0, true)] (sP m g 245 b1 b2)) = some (T [rg (w16 (m.sp - 2)), bl (ix (w16 (m.sp - 2))), rg (w16 (w16 (m.sp - 2) + 1)), bl (ix (w16 (w16 (m.sp - 2) + 1)))], .int .i64 0, 6, hPm (zf5_0 m) (M2 g (ix (w16 (m.sp - 2))) (w8 (or16 (w16 (w16 m.r7 * 256)) (w16 (128 * cI m.fs + 64 * cI m.fz + 16 * cI m.fx + 4 * cI m.fp + 2 + cI m.fc)))) (ix (w16 (w16 (m.sp - 2) + 1))) (w8 ((or16 (w16 (w16 m.r7 * 256)) (w16 (128 * cI m.fs + 64 * cI m.fz + 16 * cI m.fx + 4 * cI m.fp + 2 + cI m.fc))).fdiv 256)))) := by kernel_rfl
theorem rf5_0 : endsAt [0, 1, 2] (Ly.run ctx3 3000 [(4, true), (30, true), (2, true), (0, true), (0, true), (1, true), (0, true), (0, true), (0, true)] (sR m g 245)) = some (T [inw m.pc && true, inb m.r7 && inb (128 * cI m.fs + 64 * cI m.fz + 16 * cI m.fx + 4 * cI m.fp + 2 + cI m.fc), inb m.r7 && inb (128 * cI m.fs + 64 * cI m.fz + 16 * cI m.fx + 4 * cI m.fp + 2 + cI m.fc), inw m.sp && true, inw (w16 (m.sp + -2)) && true, rg (w16 (w16 (m.sp + -2) + 1)), bl (ix (w16 (w16 (m.sp + -2) + 1))), rg (w16 (m.sp + -2)), bl (ix (w16 (m.sp + -2)))], .int .i64 0, 3, hRm { m with pc := w16 (m.pc + 1), sp := w16 (m.sp + -2) } (M2 g (ix (w16 (w16 (m.sp + -2) + 1))) (w8 ((256 * m.r7 + (128 * cI m.fs + 64 * cI m.fz + 16 * cI m.fx + 4 * cI m.fp + 2 + cI m.fc)).fdiv 256)) (ix (w16 (m.sp + -2))) (w8 (and16 (256 * m.r7 + (128 * cI m.fs + 64 * cI m.fz + 16 * cI m.fx + 4 * cI m.fp + 2 + cI m.fc)) 255)))) := by kernel_rfl
theorem of5 (hm : m.Ok) (hg : ∀ e, B8 (g e)) (hh : m.halt = false) (h0 : g (ix m.pc) = 245) : Both m g := by
  obtain ⟨r0, r1, r2, r3, r4, r5, r7, sp, pc⟩ := id hm
  exact join (m' := (zf5_0 m)) (g' := (upd (upd g (ix (w16 (m.sp - 2))) (w8 (or16 (w16 (w16 m.r7 * 256)) (w16 (128 * cI m.fs + 64 * cI m.fz + 16 * cI m.fx + 4 * cI m.fp + 2 + cI m.fc))))) (ix (w16 (w16 (m.sp - 2) + 1))) (w8 ((or16 (w16 (w16 m.r7 * 256)) (w16 (128 * cI m.fs + 64 * cI m.fz + 16 * cI m.fx + 4 * cI m.fp + 2 + cI m.fc))).fdiv 256)))) hm hh h0 (pf5_0 m g _ _) (rf5_0 m g) (by simp [*]) (by simp [*]) (by decide) (by decide) (eP (m2s rfl rfl rfl rfl)) (eR (by simp [*]) (m2c (by simp [*]) (by simp [*]) (by simp [*]) (by simp [*]) (by simp [*]))) (by constructor <;> simp [*]) (upd_b8 (upd_b8 hg (by simp [*])) (by simp [*]))
@[simp] def zf6_0 (m : Mc) (g : Nat → Int) : Mc := { m with fc := false, fp := par (or8 m.r7 (w8 (or16 0 (w16 (g (at1 m.pc 1)))))), fs := decide (128 ≤ or8 m.r7 (w8 (or16 0 (w16 (g (at1 m.pc 1)))))), fx := false, fz := or8 m.r7 (w8 (or16 0 (w16 (g (at1 m.pc 1))))) == 0, pc := w16 (m.pc + 2), r7 := or8 m.r7 (w8 (or16 0 (w16 (g (at1 m.pc 1))))) }
@[simp] def zf6_1 (m : Mc) (b1 : Int) : Mc := { m with fc := false, fp := par (or8 m.r7 (w8 (or16 0 (w16 b1)))), fs := decide (128 ≤ or8 m.r7 (w8 (or16 0 (w16 b1)))), fx := false, fz := or8 m.r7 (w8 (or16 0 (w16 b1))) == 0, pc := w16 (m.pc + 2), r7 := or8 m.r7 (w8 (or16 0 (w16 b1))) }
theorem pf6_0 : endsAt [0, 1] (Ly.run ctx3 3000 [(21, true), (10, true)] (sP m g 246 b1 b2)) = some (T [m.fc == true, inb m.r7 && inb (w8 (or16 0 (w16 b1)))], .int .i64 0, 5, hPm (zf6_1 m b1) (memL g)) := by kernel_rfl
theorem pf6_1 : endsAt [0, 1] (Ly.run ctx3 3000 [(21, false), (10, true)] (sP m g 246 b1 b2)) = some ([(m.fc == true, false), (inb m.r7 && inb (w8 (or16 0 (w16 b1))), true)], .int .i64 0, 5, hPm (zf6_1 m b1) (memL g)) := by kernel_rfl
theorem rf6_0 : endsAt [0, 1, 2] (Ly.run ctx3 3000 [(3, true), (0, true), (0, true), (1, true), (32, true)] (sR m g 246)) = some (T [inw m.pc && true, rg (w16 (m.pc + 1)), bl (ix (w16 (m.pc + 1))), inw m.pc && true, inb m.r7 && inb (w8 (w16 (g (ix (w16 (m.pc + 1))))))], .int .i64 0, 4, hRm { m with fc := false, fp := par (or8 m.r7 (w8 (w16 (g (ix (w16 (m.pc + 1))))))), fs := decide (128 ≤ or8 m.r7 (w8 (w16 (g (ix (w16 (m.pc + 1))))))), fx := false, fz := or8 m.r7 (w8 (w16 (g (ix (w16 (m.pc + 1)))))) == 0, pc := w16 (m.pc + 2), r7 := or8 m.r7 (w8 (w16 (g (ix (w16 (m.pc + 1)))))) } (memL g)) := by kernel_rfl
theorem of6 (hm : m.Ok) (hg : ∀ e, B8 (g e)) (hh : m.halt = false) (h0 : g (ix m.pc) = 246) : Both m g := by
  obtain ⟨r0, r1, r2, r3, r4, r5, r7, sp, pc⟩ := id hm
  cases hf : m.fc
  · exact joinA (m' := (zf6_0 m g)) hm hh h0 (pf6_1 m g _ _) (rf6_0 m g) hg
  · exact joinA (m' := (zf6_0 m g)) hm hh h0 (pf6_0 m g _ _) (rf6_0 m g) hg
@[simp] def zf7_0 (m : Mc) : Mc := { m with pc := 48, sp := w16 (m.sp - 2) }
theorem pf7_0 : endsAt [0, 1] (Ly.run ctx3 3000 [(44, true), (0, true), (2, true), (0, true)] (sP m g 247 b1 b2)) = some (T [rg (w16 (m.sp - 2)), bl (ix (w16 (m.sp - 2))), rg (w16 (w16 (m.sp - 2) + 1)), bl (ix (w16 (w16 (m.sp - 2) + 1)))], .int .i64 0, 6, hPm (zf7_0 m) (M2 g (ix (w16 (m.sp - 2))) (w8 (w16 (m.pc + 1))) (ix (w16 (w16 (m.sp - 2) + 1))) (w8 ((w16 (m.pc + 1)).fdiv 256)))) := by kernel_rfl
theorem rf7_0 : endsAt [0, 1, 2] (Ly.run ctx3 3000 [(4, true), (24, true), (0, true), (1, true), (0, true), (0, true), (0, true)] (sR m g 247)) = some (T [inw m.pc && true, inw m.sp && true, inw (w16 (m.sp + -2)) && true, rg (w16 (w16 (m.sp + -2) + 1)), bl (ix (w16 (w16 (m.sp + -2) + 1))), rg (w16 (m.sp + -2)), bl (ix (w16 (m.sp + -2)))], .int .i64 0, 3, hRm { m with pc := 48, sp := w16 (m.sp + -2) } (M2 g (ix (w16 (w16 (m.sp + -2) + 1))) (w8 ((w16 (m.pc + 1)).fdiv 256)) (ix (w16 (m.sp + -2))) (w8 (and16 (w16 (m.pc + 1)) 255)))) := by kernel_rfl
theorem of7 (hm : m.Ok) (hg : ∀ e, B8 (g e)) (hh : m.halt = false) (h0 : g (ix m.pc) = 247) : Both m g := by
  obtain ⟨r0, r1, r2, r3, r4, r5, r7, sp, pc⟩ := id hm
  exact join (m' := (zf7_0 m)) (g' := (upd (upd g (ix (w16 (m.sp - 2))) (w8 (w16 (m.pc + 1)))) (ix (w16 (w16 (m.sp - 2) + 1))) (w8 ((w16 (m.pc + 1)).fdiv 256)))) hm hh h0 (pf7_0 m g _ _) (rf7_0 m g) (by simp [*]) (by simp [*]) (by decide) (by decide) (eP (m2s rfl rfl rfl rfl)) (eR (by simp [*]) (m2c (by simp [*]) (by simp [*]) (by simp [*]) (by simp [*]) (by simp [*]))) (by constructor <;> simp [*]) (upd_b8 (upd_b8 hg (by simp [*])) (by simp [*]))
@[simp] def zf8_0 (m : Mc) (g : Nat → Int) : Mc := { m with pc := or16 (w16 (g (ix (w16 (w16 (m.sp + 2) - 2))))) (w16 (w16 (g (ix (w16 (w16 (w16 (m.sp + 2) - 2) + 1)))) * 256)), sp := w16 (m.sp + 2) }
theorem pf8_0 : endsAt [0, 1] (Ly.run ctx3 3000 [(43, true), (0, true), (0, true), (0, true), (0, true)] (sP m g 248 b1 b2)) = some (T [m.fs == true, rg (w16 (w16 (m.sp + 2) - 2)), bl (ix (w16 (w16 (m.sp + 2) - 2))), rg (w16 (w16 (w16 (m.sp + 2) - 2) + 1)), bl (ix (w16 (w16 (w16 (m.sp + 2) - 2) + 1)))], .int .i64 0, 6, hPm (zf8_0 m g) (memL g)) := by kernel_rfl
theorem pf8_1 : endsAt [0, 1] (Ly.run ctx3 3000 [(43, false)] (sP m g 248 b1 b2)) = some ([(m.fs == true, false)], .int .i64 0, 6, hPm { m with pc := w16 (m.pc + 1) } (memL g)) := by kernel_rfl
theorem rf8_0 : endsAt [0, 1, 2] (Ly.run ctx3 3000 [(4, true), (53, true), (0, true), (0, true), (0, true), (0, true), (0, true), (0, true), (0, true)] (sR m g 248)) = some (T [inw m.pc && true, m.fs, inw m.sp && true, rg (w16 (m.sp + 1)), bl (ix (w16 (m.sp + 1))), rg (m.sp), bl (ix m.sp), inb (g (ix (w16 (m.sp + 1)))) && inb (g (ix m.sp)), inw m.sp && true], .int .i64 0, 4, hRm { m with pc := 256 * g (ix (w16 (m.sp + 1))) + g (ix m.sp), sp := w16 (m.sp + 2) } (memL g)) := by kernel_rfl
theorem rf8_1 : endsAt [0, 1, 2] (Ly.run ctx3 3000 [(4, true), (53, false)] (sR m g 248)) = some ([(inw m.pc && true, true), (m.fs, false)], .int .i64 0, 4, hRm { m with pc := w16 (m.pc + 1) } (memL g)) := by kernel_rfl
theorem of8 (hm : m.Ok) (hg : ∀ e, B8 (g e)) (hh : m.halt = false) (h0 : g (ix m.pc) = 248) : Both m g := by
  obtain ⟨r0, r1, r2, r3, r4, r5, r7, sp, pc⟩ := id hm
  cases hf : m.fs
  · exact joinA (m' := { m with pc := w16 (m.pc + 1) }) hm hh h0 (pf8_1 m g _ _) (rf8_1 m g) hg
  · exact joinA (m' := (zf8_0 m g)) hm hh h0 (pf8_0 m g _ _) (rf8_0 m g) hg
@[simp] def zf9_0 (m : Mc) : Mc := { m with pc := w16 (m.pc + 1), sp := or16 (w16 (w16 m.r4 * 256)) (w16 m.r5) }
theorem pf9_0 : endsAt [0, 1] (Ly.run ctx3 3000 [] (sP m g 249 b1 b2)) = some (T [], .int .i64 0, 5, hPm (zf9_0 m) (memL g)) := by kernel_rfl
theorem rf9_0 : endsAt [0, 1, 2] (Ly.run ctx3 3000 [(4, true), (70, true)] (sR m g 249)) = some (T [inw m.pc && true, inb m.r4 && inb m.r5], .int .i64 0, 3, hRm { m with pc := w16 (m.pc + 1), sp := 256 * m.r4 + m.r5 } (memL g)) := by kernel_rfl
theorem of9 (hm : m.Ok) (hg : ∀ e, B8 (g e)) (hh : m.halt = false) (h0 : g (ix m.pc) = 249) : Both m g := by
  obtain ⟨r0, r1, r2, r3, r4, r5, r7, sp, pc⟩ := id hm
  exact joinA (m' := (zf9_0 m)) hm hh h0 (pf9_0 m g _ _) (rf9_0 m g) hg
theorem pfa_0 : endsAt [0, 1] (Ly.run ctx3 3000 [(51, true)] (sP m g 250 b1 b2)) = some (T [m.fs == true], .int .i64 0, 6, hPm { m with pc := or16 (w16 (or16 0 (w16 b2) * 256)) (w16 b1) } (memL g)) := by kernel_rfl
theorem pfa_1 : endsAt [0, 1] (Ly.run ctx3 3000 [(51, false)] (sP m g 250 b1 b2)) = some ([(m.fs == true, false)], .int .i64 0, 6, hPm { m with pc := w16 (m.pc + 3) } (memL g)) := by kernel_rfl
theorem rfa_0 : endsAt [0, 1, 2] (Ly.run ctx3 3000 [(3, true), (0, true), (0, true), (1, true), (0, true), (0, true), (0, true), (63, true)] (sR m g 250)) = some (T [inw m.pc && true, rg (w16 (m.pc + 1)), bl (ix (w16 (m.pc + 1))), inw m.pc && true, rg (w16 (m.pc + 2)), bl (ix (w16 (m.pc + 2))), inw m.pc && true, m.fs], .int .i64 0, 4, hRm { m with pc := w16 (w16 (g (ix (w16 (m.pc + 1)))) + w16 (w16 (g (ix (w16 (m.pc + 2)))) * 256)) } (memL g)) := by kernel_rfl
theorem rfa_1 : endsAt [0, 1, 2] (Ly.run ctx3 3000 [(3, true), (0, true), (0, true), (1, true), (0, true), (0, true), (0, true), (63, false)] (sR m g 250)) = some ([(inw m.pc && true, true), (rg (w16 (m.pc + 1)), true), (bl (ix (w16 (m.pc + 1))), true), (inw m.pc && true, true), (rg (w16 (m.pc + 2)), true), (bl (ix (w16 (m.pc + 2))), true), (inw m.pc && true, true), (m.fs, false)], .int .i64 0, 4, hRm { m with pc := w16 (m.pc + 3) } (memL g)) := by kernel_rfl
theorem ofa (hm : m.Ok) (hg : ∀ e, B8 (g e)) (hh : m.halt = false) (h0 : g (ix m.pc) = 250) : Both m g := by
  obtain ⟨r0, r1, r2, r3, r4, r5, r7, sp, pc⟩ := id hm
  cases hf : m.fs
  · exact joinA (m' := { m with pc := w16 (m.pc + 3) }) hm hh h0 (pfa_1 m g _ _) (rfa_1 m g) hg
  · exact joinA (m' := { m with pc := or16 (w16 (or16 0 (w16 (g (at1 m.pc 2))) * 256)) (w16 (g (at1 m.pc 1))) }) hm hh h0 (pfa_0 m g _ _) (rfa_0 m g) hg
@[simp] def zfb_0 (m : Mc) : Mc := { m with ie := true, pc := w16 (m.pc + 1) }
theorem pfb_0 : endsAt [0, 1] (Ly.run ctx3 3000 [] (sP m g 251 b1 b2)) = some (T [], .int .i64 0, 5, hPm (zfb_0 m) (memL g)) := by kernel_rfl
theorem rfb_0 : endsAt [0, 1, 2] (Ly.run ctx3 3000 [(4, true), (70, true)] (sR m g 251)) = some (T [inw m.pc && true, inb m.r4 && inb m.r5], .int .i64 0, 3, hRm (zfb_0 m) (memL g)) := by kernel_rfl
theorem ofb (hm : m.Ok) (hg : ∀ e, B8 (g e)) (hh : m.halt = false) (h0 : g (ix m.pc) = 251) : Both m g := by
  obtain ⟨r0, r1, r2, r3, r4, r5, r7, sp, pc⟩ := id hm
  exact joinA (m' := (zfb_0 m)) hm hh h0 (pfb_0 m g _ _) (rfb_0 m g) hg
theorem pfc_0 : endsAt [0, 1] (Ly.run ctx3 3000 [(53, true), (3, true), (0, true), (2, true), (0, true)] (sP m g 252 b1 b2)) = some (T [m.fs == true, rg (w16 (m.sp - 2)), bl (ix (w16 (m.sp - 2))), rg (w16 (w16 (m.sp - 2) + 1)), bl (ix (w16 (w16 (m.sp - 2) + 1)))], .int .i64 0, 7, hPm { m with pc := or16 (w16 (or16 0 (w16 b2) * 256)) (w16 b1), sp := w16 (m.sp - 2) } (M2 g (ix (w16 (m.sp - 2))) (w8 (w16 (m.pc + 3))) (ix (w16 (w16 (m.sp - 2) + 1))) (w8 ((w16 (m.pc + 3)).fdiv 256)))) := by kernel_rfl
theorem pfc_1 : endsAt [0, 1] (Ly.run ctx3 3000 [(53, false)] (sP m g 252 b1 b2)) = some ([(m.fs == true, false)], .int .i64 0, 6, hPm { m with pc := w16 (m.pc + 3) } (memL g)) := by kernel_rfl
theorem rfc_0 : endsAt [0, 1, 2] (Ly.run ctx3 3000 [(3, true), (0, true), (0, true), (1, true), (0, true), (0, true), (0, true), (73, true), (0, true), (0, true), (1, true), (0, true), (0, true), (0, true)] (sR m g 252)) = some (T [inw m.pc && true, rg (w16 (m.pc + 1)), bl (ix (w16 (m.pc + 1))), inw m.pc && true, rg (w16 (m.pc + 2)), bl (ix (w16 (m.pc + 2))), inw m.pc && true, m.fs, inw m.sp && true, inw (w16 (m.sp + -2)) && true, rg (w16 (w16 (m.sp + -2) + 1)), bl (ix (w16 (w16 (m.sp + -2) + 1))), rg (w16 (m.sp + -2)), bl (ix (w16 (m.sp + -2)))], .int .i64 0, 4, hRm { m with pc := w16 (w16 (g (ix (w16 (m.pc + 1)))) + w16 (w16 (g (ix (w16 (m.pc + 2)))) * 256)), sp := w16 (m.sp + -2) } (M2 g (ix (w16 (w16 (m.sp + -2) + 1))) (w8 ((w16 (m.pc + 3)).fdiv 256)) (ix (w16 (m.sp + -2))) (w8 (and16 (w16 (m.pc + 3)) 255)))) := by kernel_rfl
theorem rfc_1 : endsAt [0, 1, 2] (Ly.run ctx3 3000 [(3, true), (0, true), (0, true), (1, true), (0, true), (0, true), (0, true), (73, false)] (sR m g 252)) = some ([(inw m.pc && true, true), (rg (w16 (m.pc + 1)), true), (bl (ix (w16 (m.pc + 1))), true), (inw m.pc && true, true), (rg (w16 (m.pc + 2)), true), (bl (ix (w16 (m.pc + 2))), true), (inw m.pc && true, true), (m.fs, false)], .int .i64 0, 4, hRm { m with pc := w16 (m.pc + 3) } (memL g)) := by kernel_rfl
theorem ofc (hm : m.Ok) (hg : ∀ e, B8 (g e)) (hh : m.halt = false) (h0 : g (ix m.pc) = 252) : Both m g := by
  obtain ⟨r0, r1, r2, r3, r4, r5, r7, sp, pc⟩ := id hm
  cases hf : m.fs
  · exact joinA (m' := { m with pc := w16 (m.pc + 3) }) hm hh h0 (pfc_1 m g _ _) (rfc_1 m g) hg
  · exact join (m' := { m with pc := or16 (w16 (or16 0 (w16 (g (at1 m.pc 2))) * 256)) (w16 (g (at1 m.pc 1))), sp := w16 (m.sp - 2) }) (g' := (upd (upd g (ix (w16 (m.sp - 2))) (w8 (w16 (m.pc + 3)))) (ix (w16 (w16 (m.sp - 2) + 1))) (w8 ((w16 (m.pc + 3)).fdiv 256)))) hm hh h0 (pfc_0 m g _ _) (rfc_0 m g) (by simp [*]) (by simp [*]) (by decide) (by decide) (eP (m2s rfl rfl rfl rfl)) (eR (by simp [*]) (m2c (by simp [*]) (by simp [*]) (by simp [*]) (by simp [*]) (by simp [*]))) (by constructor <;> simp [*]) (upd_b8 (upd_b8 hg (by simp [*])) (by simp [*]))
theorem pfd_0 : endsAt [0, 1] (Ly.run ctx3 3000 [] (sP m g 253 b1 b2)) = some (T [], .int .i64 8, 5, hPm m (memL g)) := by kernel_rfl
theorem rfd_0 : endsAt [0, 1, 2] (Ly.run ctx3 3000 [] (sR m g 253)) = some (T [], .int .i64 8, 3, hRm m (memL g)) := by kernel_rfl
theorem ofd (hm : m.Ok) (hg : ∀ e, B8 (g e)) (hh : m.halt = false) (h0 : g (ix m.pc) = 253) : Both m g := by
  obtain ⟨r0, r1, r2, r3, r4, r5, r7, sp, pc⟩ := id hm
  exact join (m' := m) (g' := g) hm hh h0 (pfd_0 m g _ _) (rfd_0 m g) (by simp [*]) (by simp [*]) (by decide) (by decide) (eP (.inl rfl)) (eR rfl (.inl rfl)) (by constructor <;> simp [*]) hg
@[simp] def zfe_0 (m : Mc) (g : Nat → Int) : Mc := { m with fc := decide (m.r7 - w8 (or16 0 (w16 (g (at1 m.pc 1)))) - 0 < 0), fp := par ((m.r7 - w8 (or16 0 (w16 (g (at1 m.pc 1)))) - 0) % 256), fs := decide (128 ≤ (m.r7 - w8 (or16 0 (w16 (g (at1 m.pc 1)))) - 0) % 256), fx := decide (15 < m.r7 % 16 + 15 - w8 (or16 0 (w16 (g (at1 m.pc 1)))) % 16 + 1), fz := (m.r7 - w8 (or16 0 (w16 (g (at1 m.pc 1)))) - 0) % 256 == 0, pc := w16 (m.pc + 2) }
@[simp] def zfe_1 (m : Mc) (b1 : Int) : Mc := { m with fc := decide (m.r7 - w8 (or16 0 (w16 b1)) - 0 < 0), fp := par ((m.r7 - w8 (or16 0 (w16 b1)) - 0) % 256), fs := decide (128 ≤ (m.r7 - w8 (or16 0 (w16 b1)) - 0) % 256), fx := decide (15 < m.r7 % 16 + 15 - w8 (or16 0 (w16 b1)) % 16 + 1), fz := (m.r7 - w8 (or16 0 (w16 b1)) - 0) % 256 == 0, pc := w16 (m.pc + 2) }
theorem pfe_0 : endsAt [0, 1] (Ly.run ctx3 3000 [(21, true), (11, true)] (sP m g 254 b1 b2)) = some (T [m.fc == true, inb m.r7 && inb (w8 (or16 0 (w16 b1)))], .int .i64 0, 5, hPm (zfe_1 m b1) (memL g)) := by kernel_rfl
theorem pfe_1 : endsAt [0, 1] (Ly.run ctx3 3000 [(21, false), (11, true)] (sP m g 254 b1 b2)) = some ([(m.fc == true, false), (inb m.r7 && inb (w8 (or16 0 (w16 b1))), true)], .int .i64 0, 5, hPm (zfe_1 m b1) (memL g)) := by kernel_rfl
theorem rfe_0 : endsAt [0, 1, 2] (Ly.run ctx3 3000 [(3, true), (0, true), (0, true), (1, true), (35, true)] (sR m g 254)) = some (T [inw m.pc && true, rg (w16 (m.pc + 1)), bl (ix (w16 (m.pc + 1))), inw m.pc && true, inb m.r7 && inb (w8 (w16 (g (ix (w16 (m.pc + 1))))))], .int .i64 0, 4, hRm { m with fc := decide (m.r7 - w8 (w16 (g (ix (w16 (m.pc + 1))))) - 0 < 0), fp := par ((m.r7 - w8 (w16 (g (ix (w16 (m.pc + 1))))) - 0) % 256), fs := decide (128 ≤ (m.r7 - w8 (w16 (g (ix (w16 (m.pc + 1))))) - 0) % 256), fx := decide (15 < m.r7 % 16 + 15 - w8 (w16 (g (ix (w16 (m.pc + 1))))) % 16 + 1), fz := (m.r7 - w8 (w16 (g (ix (w16 (m.pc + 1))))) - 0) % 256 == 0, pc := w16 (m.pc + 2) } (memL g)) := by kernel_rfl
theorem ofe (hm : m.Ok) (hg : ∀ e, B8 (g e)) (hh : m.halt = false) (h0 : g (ix m.pc) = 254) : Both m g := by
  obtain ⟨r0, r1, r2, r3, r4, r5, r7, sp, pc⟩ := id hm
  cases hf : m.fc
  · exact joinA (m' := (zfe_0 m g)) hm hh h0 (pfe_1 m g _ _) (rfe_0 m g) hg
  · exact joinA (m' := (zfe_0 m g)) hm hh h0 (pfe_0 m g _ _) (rfe_0 m g) hg
@[simp] def zff_0 (m : Mc) : Mc := { m with pc := 56, sp := w16 (m.sp - 2) }
theorem pff_0 : endsAt [0, 1] (Ly.run ctx3 3000 [(44, true), (0, true), (2, true), (0, true)] (sP m g 255 b1 b2)) = some (T [rg (w16 (m.sp - 2)), bl (ix (w16 (m.sp - 2))), rg (w16 (w16 (m.sp - 2) + 1)), bl (ix (w16 (w16 (m.sp - 2) + 1)))], .int .i64 0, 6, hPm (zff_0 m) (M2 g (ix (w16 (m.sp - 2))) (w8 (w16 (m.pc + 1))) (ix (w16 (w16 (m.sp - 2) + 1))) (w8 ((w16 (m.pc + 1)).fdiv 256)))) := by kernel_rfl
theorem rff_0 : endsAt [0, 1, 2] (Ly.run ctx3 3000 [(4, true), (24, true), (0, true), (1, true), (0, true), (0, true), (0, true)] (sR m g 255)) = some (T [inw m.pc && true, inw m.sp && true, inw (w16 (m.sp + -2)) && true, rg (w16 (w16 (m.sp + -2) + 1)), bl (ix (w16 (w16 (m.sp + -2) + 1))), rg (w16 (m.sp + -2)), bl (ix (w16 (m.sp + -2)))], .int .i64 0, 3, hRm { m with pc := 56, sp := w16 (m.sp + -2) } (M2 g (ix (w16 (w16 (m.sp + -2) + 1))) (w8 ((w16 (m.pc + 1)).fdiv 256)) (ix (w16 (m.sp + -2))) (w8 (and16 (w16 (m.pc + 1)) 255)))) := by kernel_rfl
theorem off (hm : m.Ok) (hg : ∀ e, B8 (g e)) (hh : m.halt = false) (h0 : g (ix m.pc) = 255) : Both m g := by
  obtain ⟨r0, r1, r2, r3, r4, r5, r7, sp, pc⟩ := id hm
  exact join (m' := (zff_0 m)) (g' := (upd (upd g (ix (w16 (m.sp - 2))) (w8 (w16 (m.pc + 1)))) (ix (w16 (w16 (m.sp - 2) + 1))) (w8 ((w16 (m.pc + 1)).fdiv 256)))) hm hh h0 (pff_0 m g _ _) (rff_0 m g) (by simp [*]) (by simp [*]) (by decide) (by decide) (eP (m2s rfl rfl rfl rfl)) (eR (by simp [*]) (m2c (by simp [*]) (by simp [*]) (by simp [*]) (by simp [*]) (by simp [*]))) (by constructor <;> simp [*]) (upd_b8 (upd_b8 hg (by simp [*])) (by simp [*]))
theorem blk15 (m : Mc) (g : Nat → Int) (hm : m.Ok) (hg : ∀ e, B8 (g e)) (hh : m.halt = false) (h1 : 240 ≤ g (ix m.pc)) (h2 : g (ix m.pc) < 256) : Both m g := by
  have h : g (ix m.pc) = 240 ∨ g (ix m.pc) = 241 ∨ g (ix m.pc) = 242 ∨ g (ix m.pc) = 243 ∨ g (ix m.pc) = 244 ∨ g (ix m.pc) = 245 ∨ g (ix m.pc) = 246 ∨ g (ix m.pc) = 247 ∨ g (ix m.pc) = 248 ∨ g (ix m.pc) = 249 ∨ g (ix m.pc) = 250 ∨ g (ix m.pc) = 251 ∨ g (ix m.pc) = 252 ∨ g (ix m.pc) = 253 ∨ g (ix m.pc) = 254 ∨ g (ix m.pc) = 255 := by omega
  rcases h with h | h | h | h | h | h | h | h | h | h | h | h | h | h | h | h
  · exact of0 m g hm hg hh h
  · exact of1 m g hm hg hh h
  · exact of2 m g hm hg hh h
  · exact of3 m g hm hg hh h
  · exact of4 m g hm hg hh h
  · exact of5 m g hm hg hh h
  · exact of6 m g hm hg hh h
  · exact of7 m g hm hg hh h
  · exact of8 m g hm hg hh h
  · exact of9 m g hm hg hh h
  · exact ofa m g hm hg hh h
  · exact ofb m g hm hg hh h
  · exact ofc m g hm hg hh h
  · exact ofd m g hm hg hh h
  · exact ofe m g hm hg hh h
  · exact off m g hm hg hh h
end Go.Proofs.Ytpggoincnebfnaa
namespace Go.Proofs.Ytpggoincnebfnaa
open Go Go.Ly Go.RowKit
variable (m : Mc) (g : Nat → Int) (b1 b2 : Int)
theorem both (m : Mc) (g : Nat → Int) (hm : m.Ok) (hg : ∀ e, B8 (g e)) (hh : m.halt = false) (hi : g (ix m.pc) ≠ 219) (ho : g (ix m.pc) ≠ 211) : Both m g := by
  have hb := hg (ix m.pc)
  unfold B8 at hb
  rcases Int.lt_or_le (g (ix m.pc)) 16 with h0 | h0
  · exact blk0 m g hm hg hh (by omega) h0
  rcases Int.lt_or_le (g (ix m.pc)) 32 with h1 | h1
  · exact blk1 m g hm hg hh (by omega) h1
  rcases Int.lt_or_le (g (ix m.pc)) 48 with h2 | h2
  · exact blk2 m g hm hg hh (by omega) h2
  rcases Int.lt_or_le (g (ix m.pc)) 64 with h3 | h3
  · exact blk3 m g hm hg hh (by omega) h3
  rcases Int.lt_or_le (g (ix m.pc)) 80 with h4 | h4
  · exact blk4 m g hm hg hh (by omega) h4
  rcases Int.lt_or_le (g (ix m.pc)) 96 with h5 | h5
  · exact blk5 m g hm hg hh (by omega) h5
  rcases Int.lt_or_le (g (ix m.pc)) 112 with h6 | h6
  · exact blk6 m g hm hg hh (by omega) h6
  rcases Int.lt_or_le (g (ix m.pc)) 128 with h7 | h7
  · exact blk7 m g hm hg hh (by omega) h7
  rcases Int.lt_or_le (g (ix m.pc)) 144 with h8 | h8
  · exact blk8 m g hm hg hh (by omega) h8
  rcases Int.lt_or_le (g (ix m.pc)) 160 with h9 | h9
  · exact blk9 m g hm hg hh (by omega) h9
  rcases Int.lt_or_le (g (ix m.pc)) 176 with h10 | h10
  · exact blk10 m g hm hg hh (by omega) h10
  rcases Int.lt_or_le (g (ix m.pc)) 192 with h11 | h11
  · exact blk11 m g hm hg hh (by omega) h11
  rcases Int.lt_or_le (g (ix m.pc)) 208 with h12 | h12
  · exact blk12 m g hm hg hh (by omega) h12
  rcases Int.lt_or_le (g (ix m.pc)) 224 with h13 | h13
  · exact blk13 m g hm hg hh (by omega) h13 hi ho
  rcases Int.lt_or_le (g (ix m.pc)) 240 with h14 | h14
  · exact blk14 m g hm hg hh (by omega) h14
  exact blk15 m g hm hg hh h14 (by omega)
end Go.Proofs.Ytpggoincnebfnaa
namespace Go.Proofs.Ytpggoincnebfnaa
open Go Go.Ly Go.RowKit
def StepsTo (s s' : Js) (k : Int) : Prop := (∀ H p O V, PM H p s O V → H.lock = 0 → Ly.Clean H → H.next + 64 < big → LCalls Try.prog 13 [ptr p] H (fun u H' => u = .int .i64 k ∧ PN H p s' O V H')) ∧ (∀ H p O V, RM H p s O V → H.lock = 0 → Ly.Clean H → H.next + 64 < big → LCalls Try.prog 14 [ptr p] H (fun u H' => u = .int .i64 k ∧ RN H p s' O V H'))
theorem P_ends {h : List (Option LO)} {m : Mc} {g : Nat → Int} {b0 k : Int} {I : List Nat} {pP : Path} {tP' : List (Bool × Bool)} {nP : Nat} {osP osP' : List (Option LO)} (hm : m.Ok) (hh : m.halt = false) (h0 : g (ix m.pc) = b0) (hj : jP h m g)
    (hp : endsAt I (Ly.run ctx3 3000 pP (sPi h b0 (g (at1 m.pc 1)) (g (at1 m.pc 2)))) = some (tP', .int .i64 k, nP, osP)) (h1 : trusted tP') (h3 : nP ≤ 64) (hI : (nodupB I && I.all (fun b => Nat.blt b 2147483000)) = true) (h5 : Each2 OLeq osP osP') : Ly.Ends Try.prog 13 [ptr 0] h I (.int .i64 k) 64 osP' := by
  have e1 := MWp.ends ctx3_ok 3000 pP hp h1
  have h0' : g (0 + m.pc.toNat * 1) = b0 := h0
  have e2 : Ly.Ends Try.prog 13 [ptr 0] h I (.int .i64 k) nP osP := by
    refine LCalls_of ctx3_ok gP13 (by kernel_rfl) (MWp.halted (haltAt_ok ctx3_ok 27) [0, 53] 300 pathP hj (trP hm hh) ?_)
    rw [h0']; exact e1
  exact (e2.eqv hI h5).grow h3 (by unfold big; omega)
theorem R_ends {h : List (Option LO)} {m : Mc} {g : Nat → Int} {b0 k : Int} {I : List Nat} {pP : Path} {tP' : List (Bool × Bool)} {nP : Nat} {osP osP' : List (Option LO)} (hm : m.Ok) (hh : m.halt = false) (h0 : g (ix m.pc) = b0) (hj : jR h m g)
    (hp : endsAt I (Ly.run ctx3 3000 pP (sRi h b0)) = some (tP', .int .i64 k, nP, osP)) (h1 : trusted tP') (h3 : nP ≤ 64) (hI : (nodupB I && I.all (fun b => Nat.blt b 2147483000)) = true) (h5 : Each2 OLeq osP osP') : Ly.Ends Try.prog 14 [ptr 0] h I (.int .i64 k) 64 osP' := by
  have e1 := MWp.ends ctx3_ok 3000 pP hp h1
  have h0' : g (0 + m.pc.toNat * 1) = b0 := h0
  have e2 : Ly.Ends Try.prog 14 [ptr 0] h I (.int .i64 k) nP osP := by
    refine LCalls_of ctx3_ok gP14 (by kernel_rfl) (MWp.halted (haltAt_ok ctx3_ok 32) [0, 3, 20] 300 pathR hj (trR hm hh) ?_)
    rw [h0']; exact e1
  exact (e2.eqv hI h5).grow h3 (by unfold big; omega)
theorem steps_tok {s : Js} {m' : Mc} {g' : Nat → Int} {k : Int} (h1 : Ly.Ends Try.prog 13 [ptr 0] (hP s.m s.g) [0, 1] (.int .i64 k) 64 (hP m' g')) (h2 : Ly.Ends Try.prog 14 [ptr 0] (hR s.m s.g) [0, 1, 2] (.int .i64 k) 64 (hR m' g')) :
    StepsTo s { s with m := m', g := g' } k :=
  ⟨fun H p O V h hl hc hb => P_tok h hl hc hb h1, fun H p O V h hl hc hb => R_tok h hl hc hb h2⟩
theorem haltP (m : Mc) (g : Nat → Int) : endsAt [0, 1] (Ly.run ctx3 100 [(1, true)] (Ly.start Try.f13 [ptr 0] (mkH (hP m g)))) = some ([(m.halt, true)], .int .i64 13, 2, hP m g) := by kernel_rfl
theorem haltR (m : Mc) (g : Nat → Int) : endsAt [0, 1, 2] (Ly.run ctx3 100 [(0, true)] (Ly.start Try.f14 [ptr 0] (mkH (hR m g)))) = some ([(m.halt, true)], .int .i64 13, 3, hR m g) := by kernel_rfl
theorem step_halt {s : Js} (hh : s.m.halt = true) : StepsTo s s 13 := by
  have e1 : Ly.Ends Try.prog 13 [ptr 0] (hP s.m s.g) [0, 1] (.int .i64 13) 2 (hP s.m s.g) := Ends.of_run ctx3_ok 100 _ gP13 (by kernel_rfl) (haltP s.m s.g) (by simp [hh])
  have e2 : Ly.Ends Try.prog 14 [ptr 0] (hR s.m s.g) [0, 1, 2] (.int .i64 13) 3 (hR s.m s.g) := Ends.of_run ctx3_ok 100 _ gP14 (by kernel_rfl) (haltR s.m s.g) (by simp [hh])
  exact steps_tok (e1.grow (by omega) (by unfold big; omega)) (e2.grow (by omega) (by unfold big; omega))
theorem fullT_of {q : Nat} (h0 : 0 < q) (h1 : q < 4294967296) : fullT q = true := by
  have e1 : Nat.ble (0 + q) q = true := by rw [Nat.ble_eq]; omega
  have e2 : Nat.beq q q = true := Nat.beq_refl q
  have e3 : Nat.ble 1 q = true := by rw [Nat.ble_eq]; omega
  have e4 : Nat.ble (q + 1) 4294967296 = true := by rw [Nat.ble_eq]; omega
  unfold fullT
  rw [e1, e2, e3, e4]; rfl
theorem inS_end {s : Js} (hj : s.j = s.N) : inS s = { s with m := inM s.m 0 } := by
  have : Nat.blt s.j s.N = false := by
    cases h : Nat.blt s.j s.N with
    | false => rfl
    | true => rw [Nat.blt_eq] at h; omega
  unfold inS; rw [this]; rfl
theorem step_in {s : Js} (hs : s.Ok) (hh : s.m.halt = false) (h0 : s.g (ix s.m.pc) = 219) : StepsTo s (inS s) 0 := by
  have hm := hs.m
  obtain ⟨r0, r1, r2, r3, r4, r5, r7, sp, pc⟩ := id hm
  refine ⟨fun H p O V h hl hc hb => ?_, fun H p O V h hl hc hb => ?_⟩
  · obtain ⟨b, rg, iv, ov, VI, VO, h, rfl, rfl⟩ := h
    rcases h.inn with ⟨hj, rfl, rfl | ⟨a, c, rfl⟩⟩ | ⟨hj, x, rfl, rfl, hx⟩
    · have e : inS s = { s with m := inM s.m 0 } := inS_end hj
      rw [e]
      exact P_in0 h hl hc hb (P_ends hm hh h0 (jP_i0 _ _) (pi0 _ _ _ _) trivial (by decide) (by kernel_rfl) ⟨.inl rfl, .inl rfl, trivial⟩)
    · have e : inS s = { s with m := inM s.m 0 } := inS_end hj
      rw [e]
      refine LCalls.ltn fun hlt hsm => ?_
      have hget := fun i => Heap.get_put (H := H) (o := .cells (cellsPb b rg s.m (empV p) ov) 60) (Nat.lt_trans (hlt _ _ h.cells) hsm) i
      have hpb : p ≠ b := by intro e; have := h.nd; simp [e] at this
      have hw : WeakH H (H.put p (.cells (cellsPb b rg s.m (empV p) ov) 60)) := by
        refine ⟨rfl, rfl, fun i o hi => ?_⟩
        rw [hget] at hi
        split at hi
        · rename_i e; subst e
          simp only [Option.some.injEq] at hi; subst hi
          refine ⟨_, h.cells, OW.cells ?_⟩
          simp only [cellsPb, VWL]
          exact ⟨_, _, VW.refl _, ⟨_, _, VW.refl _, ⟨_, _, VW.refl _, ⟨_, _, VW.refl _, ⟨_, _, VW.refl _, ⟨_, _, VW.refl _, ⟨_, _, VW.refl _, ⟨_, _, VW.refl _, ⟨_, _, VW.refl _, ⟨_, _, VW.refl _, ⟨_, _, VW.refl _, ⟨_, _, VW.refl _, ⟨_, _, VW.refl _, ⟨_, _, VW.refl _, ⟨_, _, VW.refl _, ⟨_, _, VW.refl _, ⟨_, _, VW.refl _, ⟨_, _, VW.empty _ _ _, ⟨_, _, VW.refl _, ⟨_, _, VW.refl _, rfl, rfl⟩, rfl⟩, rfl⟩, rfl⟩, rfl⟩, rfl⟩, rfl⟩, rfl⟩, rfl⟩, rfl⟩, rfl⟩, rfl⟩, rfl⟩, rfl⟩, rfl⟩, rfl⟩, rfl⟩, rfl⟩, rfl⟩, rfl⟩
        · exact ⟨o, hi, OW.refl o⟩
      refine LCalls.weak hw ?_
      have hK : Pm (H.put p (.cells (cellsPb b rg s.m (empV p) ov) 60)) p b rg s (empV p) ov [] VO := by
        refine ⟨by rw [hget, if_pos rfl], by rw [hget, if_neg hpb.symm]; exact h.mem, h.regs, .inl ⟨hj, rfl, .inr ⟨_, _, rfl⟩⟩, h.out.same fun i hi => ?_, h.nd⟩
        rw [hget, if_neg]
        intro e
        exact (List.nodup_append.1 h.nd).2.2 p (by simp) i (by simp [hi]) e.symm
      have hcK : Ly.Clean (H.put p (.cells (cellsPb b rg s.m (empV p) ov) 60)) := by
        intro i o hi
        rw [hget] at hi
        split at hi
        · simp only [Option.some.injEq] at hi; subst hi
          show noTokL _ = true
          rw [noP, h.out.noTok]; rfl
        · exact hc i o hi
      refine (P_inE hK hl hcK hb (P_ends hm hh h0 (jP_iE _ _) (piE _ _ _ _) trivial (by decide) (by kernel_rfl) ⟨.inl rfl, .inl rfl, trivial⟩)).mono ?_
      rintro u H' ⟨rfl, ⟨n1, n2, n3, n4, n5⟩, hN⟩
      refine ⟨rfl, ⟨n1, n2, n3, n4, fun i hi hO => ?_⟩, hN⟩
      rw [n5 i hi hO, hget, if_neg]
      intro e; exact hO (by simp [e])
    · obtain ⟨n, hn⟩ : ∃ n, s.N - s.j = n + 1 := ⟨s.N - s.j - 1, by omega⟩
      have e : inS s = { s with m := inM s.m (s.f s.j), j := s.j + 1 } := by
        unfold inS
        have : Nat.blt s.j s.N = true := by rw [Nat.blt_eq]; exact hj
        rw [this]; rfl
      rw [e]
      rw [hn] at h
      have hlt : Nat.blt s.j s.N = true := by rw [Nat.blt_eq]; exact hj
      exact P_inR hn h hx hl hc hb (P_ends hm hh h0 (jP_iR _ _ _ _ _ _) (piR _ _ _ _ _ _ _ _) (by simp [tI, hlt]; omega) (by decide) (by kernel_rfl) ⟨.inl rfl, .inl rfl, .inl rfl, trivial⟩)
  · obtain ⟨b, rg, iv, ov, VI, VO, h, rfl, rfl⟩ := h
    have htr : trusted (tRI s.m) := by simp [tRI, *]
    rcases h.inn with ⟨hj, rfl, rfl | ⟨a, c, rfl⟩⟩ | ⟨hj, x, rfl, rfl, hx⟩
    · have e : inS s = { s with m := inM s.m 0 } := inS_end hj
      rw [e]
      exact R_in0 h hl hc hb (R_ends hm hh h0 (jR_i0 _ _) (ri0 _ _) htr (by decide) (by kernel_rfl) ⟨.inl rfl, .inl rfl, .inl rfl, trivial⟩)
    · have e : inS s = { s with m := inM s.m 0 } := inS_end hj
      rw [e]
      refine LCalls.ltn fun hlt hsm => ?_
      have hget := fun i => Heap.get_put (H := H) (o := .cells (cellsRb b rg s.m (empV p) ov) 56) (Nat.lt_trans (hlt _ _ h.cells) hsm) i
      have hpb : p ≠ b := by intro e; have := h.nd; simp [e] at this
      have hpr : p ≠ rg := by intro e; have := h.nd; simp [e] at this
      have hw : WeakH H (H.put p (.cells (cellsRb b rg s.m (empV p) ov) 56)) := by
        refine ⟨rfl, rfl, fun i o hi => ?_⟩
        rw [hget] at hi
        split at hi
        · rename_i e; subst e
          simp only [Option.some.injEq] at hi; subst hi
          refine ⟨_, h.cells, OW.cells ?_⟩
          simp only [cellsRb, VWL]
          exact ⟨_, _, VW.refl _, ⟨_, _, VW.refl _, ⟨_, _, VW.refl _, ⟨_, _, VW.refl _, ⟨_, _, VW.refl _, ⟨_, _, VW.refl _, ⟨_, _, VW.refl _, ⟨_, _, VW.refl _, ⟨_, _, VW.refl _, ⟨_, _, VW.refl _, ⟨_, _, VW.empty _ _ _, ⟨_, _, VW.refl _, ⟨_, _, VW.refl _, rfl, rfl⟩, rfl⟩, rfl⟩, rfl⟩, rfl⟩, rfl⟩, rfl⟩, rfl⟩, rfl⟩, rfl⟩, rfl⟩, rfl⟩, rfl⟩
        · exact ⟨o, hi, OW.refl o⟩
      refine LCalls.weak hw ?_
      have hK : Rm (H.put p (.cells (cellsRb b rg s.m (empV p) ov) 56)) p b rg s (empV p) ov [] VO := by
        refine ⟨by rw [hget, if_pos rfl], by rw [hget, if_neg hpb.symm]; exact h.mem, by rw [hget, if_neg hpr.symm]; exact h.regs, .inl ⟨hj, rfl, .inr ⟨_, _, rfl⟩⟩, h.out.same fun i hi => ?_, h.nd⟩
        rw [hget, if_neg]
        intro e
        exact (List.nodup_append.1 h.nd).2.2 p (by simp) i (by simp [hi]) e.symm
      have hcK : Ly.Clean (H.put p (.cells (cellsRb b rg s.m (empV p) ov) 56)) := by
        intro i o hi
        rw [hget] at hi
        split at hi
        · simp only [Option.some.injEq] at hi; subst hi
          show noTokL _ = true
          rw [noR, h.out.noTok]; rfl
        · exact hc i o hi
      refine (R_inE hK hl hcK hb (R_ends hm hh h0 (jR_iE _ _) (riE _ _) htr (by decide) (by kernel_rfl) ⟨.inl rfl, .inl rfl, .inl rfl, trivial⟩)).mono ?_
      rintro u H' ⟨rfl, ⟨n1, n2, n3, n4, n5⟩, hN⟩
      refine ⟨rfl, ⟨n1, n2, n3, n4, fun i hi hO => ?_⟩, hN⟩
      rw [n5 i hi hO, hget, if_neg]
      intro e; exact hO (by simp [e])
    · obtain ⟨n, hn⟩ : ∃ n, s.N - s.j = n + 1 := ⟨s.N - s.j - 1, by omega⟩
      have e : inS s = { s with m := inM s.m (s.f s.j), j := s.j + 1 } := by
        unfold inS
        have : Nat.blt s.j s.N = true := by rw [Nat.blt_eq]; exact hj
        rw [this]; rfl
      rw [e]
      rw [hn] at h
      have hlt : Nat.blt s.j s.N = true := by rw [Nat.blt_eq]; exact hj
      exact R_inR hn h hx hl hc hb (R_ends hm hh h0 (jR_iR _ _ _ _ _ _) (riR _ _ _ _ _ _) (by simp [hlt, *]; omega) (by decide) (by kernel_rfl) ⟨.inl rfl, .inl rfl, .inl rfl, .inl rfl, trivial⟩)
theorem step_out {s : Js} (hs : s.Ok) (hq : s.q < 4294967296) (hh : s.m.halt = false) (h0 : s.g (ix s.m.pc) = 211) : StepsTo s (outS s (s.g (ix (w16 (s.m.pc + 1))))) 0 := by
  have hm := hs.m
  have hb1 := hs.g (ix (w16 (s.m.pc + 1)))
  obtain ⟨r0, r1, r2, r3, r4, r5, r7, sp, pc⟩ := id hm
  have eP : w8 (or16 0 (w16 (s.g (at1 s.m.pc 1)))) = s.g (ix (w16 (s.m.pc + 1))) := by
    have : B8 (s.g (at1 s.m.pc 1)) := hs.g _
    simp [*]
  have eR : w8 (w16 (s.g (ix (w16 (s.m.pc + 1))))) = s.g (ix (w16 (s.m.pc + 1))) := by simp [*]
  refine ⟨fun H p O V h hl hc hb => ?_, fun H p O V h hl hc hb => ?_⟩
  · obtain ⟨b, rg, iv, ov, VI, VO, h, rfl, rfl⟩ := h
    rcases h.out with ⟨hq0, rfl, rfl⟩ | ⟨hq0, y, rfl, rfl, hy⟩
    · refine P_out0 h hl hc hb (P_ends hm hh h0 (jP_o0 _ _) (po0 _ _ _ _) trivial (by decide) (by kernel_rfl) ⟨.inl ?_, .inl rfl, ?_, trivial⟩)
      · rw [hq0]
      · rw [hq0, eP]; exact out1 _ _ _ _
    · refine P_outR h hy hl hc hb (P_ends hm hh h0 (jP_oR _ _ _ _ _) (poR _ _ _ _ _ _ _) (by simp [fullT_of hq0 hq]) (by decide) (by kernel_rfl) ⟨.inl rfl, .inl rfl, ?_, trivial⟩)
      rw [eP]; exact out2 _ _ _ _ _
  · obtain ⟨b, rg, iv, ov, VI, VO, h, rfl, rfl⟩ := h
    have htr : trusted (tRI s.m) := by simp [tRI, *]
    rcases h.out with ⟨hq0, rfl, rfl⟩ | ⟨hq0, y, rfl, rfl, hy⟩
    · refine R_out0 h hl hc hb (R_ends hm hh h0 (jR_o0 _ _) (ro0 _ _) htr (by decide) (by kernel_rfl) ⟨.inl ?_, .inl rfl, .inl rfl, ?_, trivial⟩)
      · rw [hq0]
      · rw [hq0, eR]; exact out1 _ _ _ _
    · refine R_outR h hy hl hc hb (R_ends hm hh h0 (jR_oR _ _ _ _ _) (roR _ _ _ _ _) (by simp [fullT_of hq0 hq, *]) (by decide) (by kernel_rfl) ⟨.inl rfl, .inl rfl, .inl rfl, ?_, trivial⟩)
      rw [eR]; exact out2 _ _ _ _ _
theorem inM_ok {m : Mc} (h : m.Ok) {x : Int} (hx : B8 x) : (inM m x).Ok := by
  obtain ⟨r0, r1, r2, r3, r4, r5, r7, sp, pc⟩ := h
  constructor <;> simp [inM, *]
theorem outM_ok {m : Mc} (h : m.Ok) : (outM m).Ok := by
  obtain ⟨r0, r1, r2, r3, r4, r5, r7, sp, pc⟩ := h
  constructor <;> simp [outM, *]
theorem step_any (s : Js) (hs : s.Ok) (hq : s.q < 4294967296) : ∃ s' k, s'.Ok ∧ s'.q ≤ s.q + 1 ∧ s'.N = s.N ∧ StepsTo s s' k := by
  by_cases hh : s.m.halt = true
  · exact ⟨s, 13, hs, by omega, rfl, step_halt hh⟩
  have hh' : s.m.halt = false := by simpa using hh
  by_cases h1 : s.g (ix s.m.pc) = 219
  · refine ⟨inS s, 0, ?_, ?_, by unfold inS; cases Nat.blt s.j s.N <;> rfl, step_in hs hh' h1⟩
    · unfold inS
      cases hb : Nat.blt s.j s.N with
      | true =>
        have hlt : s.j < s.N := by rw [Nat.blt_eq] at hb; exact hb
        exact ⟨inM_ok hs.m (hs.f _ hlt), hs.g, hs.f, by show s.j + 1 ≤ s.N; omega⟩
      | false => exact ⟨inM_ok hs.m (by simp), hs.g, hs.f, hs.j⟩
    · unfold inS; cases Nat.blt s.j s.N <;> simp
  by_cases h2 : s.g (ix s.m.pc) = 211
  · exact ⟨outS s (s.g (ix (w16 (s.m.pc + 1)))), 0, ⟨outM_ok hs.m, hs.g, hs.f, hs.j⟩, by simp [outS], rfl, step_out hs hq hh' h2⟩
  obtain ⟨m', g', k, h3, h4, h5, h6⟩ := both s.m s.g hs.m hs.g hh' h1 h2
  exact ⟨{ s with m := m', g := g' }, k, ⟨h3, h4, hs.f, hs.j⟩, by simp, rfl, steps_tok h5 h6⟩
end Go.Proofs.Ytpggoincnebfnaa
namespace Go.Ly
open Go.RowKit
def RO.fin? : RO → Option (List (Bool × Bool) × Value × Heap)
  | .ok t (.done v H) => some (t, v, H)
  | _ => none
theorem MWp.fin {P : Program} {C : Ctx} {Q : Value → Heap → Prop} (hC : C.Ok P) {S : St} {t : List (Bool × Bool)} {v : Value} {H : Heap} (n : Nat) (p : Path) (h : (run C n p S).fin? = some (t, v, H)) (htr : trusted t) (hq : Q v H) : MWp P S Q := by
  cases hr : run C n p S with
  | no => rw [hr] at h; cases h
  | ok t' l =>
    cases l with
    | halt S' => rw [hr] at h; cases h
    | done v' H' =>
      rw [hr] at h
      simp only [RO.fin?, Option.some.injEq, Prod.mk.injEq] at h
      obtain ⟨rfl, rfl, rfl⟩ := h
      exact run_sound hC n p S _ _ hr htr hq
end Go.Ly
namespace Go.Proofs.Ytpggoincnebfnaa
open Go Go.Ly Go.RowKit
def cntV (c k : Int) : Value := .tuple ⟨[.int .i64 c, .int .i64 k]⟩
def rd16 : St := Ly.start Try.f16 [] H0
def k16 : List KI := ((Ly.run ctxH 60 [] (Ly.start Try.f16 [ptr 0, .int .i64 1] H0)).st rd16).top.k
def v16 (p : Nat) (n d : Int) : List Value := slots 22 [(0, ptr p), (1, .int .i64 n), (6, .int .i64 d), (13, ptr p)]
def rd17 : St := Ly.start Try.f17 [] H0
def k17 : List KI := ((Ly.run ctxH 60 [] (Ly.start Try.f17 [ptr 0, .int .i64 1] H0)).st rd17).top.k
def v17 (p : Nat) (n d : Int) : List Value := slots 21 [(0, ptr p), (1, .int .i64 n), (6, .int .i64 d), (13, ptr p)]
theorem gH16 : ctxH.fn.get 16 = some Try.f16 := by kernel_rfl
theorem gH17 : ctxH.fn.get 17 = some Try.f17 := by kernel_rfl
theorem run16_0 (p : Nat) (n : Int) (H : Heap) : (Ly.run ctxH 60 [(1, false)] (Ly.start Try.f16 [ptr p, .int .i64 n] H)).fin? = some ([(decide (0 < n), false)], cntV 0 0, H) := by kernel_rfl
theorem run16_1 (p : Nat) (n : Int) (H : Heap) : haltF [0, 1, 6, 13] rd16 (Ly.run ctxH 60 [(1, true)] (Ly.start Try.f16 [ptr p, .int .i64 n] H)) = (true, [(decide (0 < n), true)], true, (Try.f16, k16, none, H.next), v16 p n 0, H) := by kernel_rfl
theorem run16_k (p b : Nat) (n d k : Int) (H H' : Heap) : (Ly.run ctxH 60 [(0, true)] (behind (atSt Try.f16 k16 none b (v16 p n d) H) (.int .i64 k) H')).fin? = some ([(k != 0, true)], cntV d k, H') := by kernel_rfl
theorem run16_e (p b : Nat) (n d k : Int) (H H' : Heap) : (Ly.run ctxH 60 [(0, false), (0, false)] (behind (atSt Try.f16 k16 none b (v16 p n d) H) (.int .i64 k) H')).fin? = some ([(k != 0, false), (decide (IntKind.i64.wrap (d + 1) < n), false)], cntV (IntKind.i64.wrap (d + 1)) 0, H') := by kernel_rfl
theorem run16_n (p b : Nat) (n d k : Int) (H H' : Heap) : haltF [0, 1, 6, 13] rd16 (Ly.run ctxH 60 [(0, false), (0, true)] (behind (atSt Try.f16 k16 none b (v16 p n d) H) (.int .i64 k) H')) = (true, [(k != 0, false), (decide (IntKind.i64.wrap (d + 1) < n), true)], true, (Try.f16, k16, none, b), v16 p n (IntKind.i64.wrap (d + 1)), H') := by kernel_rfl
theorem call16 (p b : Nat) (n d : Int) (H : Heap) : callOf env (atSt Try.f16 k16 none b (v16 p n d) H) = some (13, [ptr p]) := by kernel_rfl
theorem run17_0 (p : Nat) (n : Int) (H : Heap) : (Ly.run ctxH 60 [(0, false)] (Ly.start Try.f17 [ptr p, .int .i64 n] H)).fin? = some ([(decide (0 < n), false)], cntV (bif decide (n < 0) then 0 else n) 0, H) := by kernel_rfl
theorem run17_1 (p : Nat) (n : Int) (H : Heap) : haltF [0, 1, 6, 13] rd17 (Ly.run ctxH 60 [(0, true)] (Ly.start Try.f17 [ptr p, .int .i64 n] H)) = (true, [(decide (0 < n), true)], true, (Try.f17, k17, none, H.next), v17 p n 0, H) := by kernel_rfl
theorem run17_k (p b : Nat) (n d k : Int) (H H' : Heap) : (Ly.run ctxH 60 [(0, true)] (behind (atSt Try.f17 k17 none b (v17 p n d) H) (.int .i64 k) H')).fin? = some ([(k != 0, true)], cntV d k, H') := by kernel_rfl
theorem run17_e (p b : Nat) (n d k : Int) (H H' : Heap) : (Ly.run ctxH 60 [(0, false), (0, false)] (behind (atSt Try.f17 k17 none b (v17 p n d) H) (.int .i64 k) H')).fin? = some ([(k != 0, false), (decide (IntKind.i64.wrap (d + 1) < n), false)], cntV (bif decide (n < 0) then 0 else n) 0, H') := by kernel_rfl
theorem run17_n (p b : Nat) (n d k : Int) (H H' : Heap) : haltF [0, 1, 6, 13] rd17 (Ly.run ctxH 60 [(0, false), (0, true)] (behind (atSt Try.f17 k17 none b (v17 p n d) H) (.int .i64 k) H')) = (true, [(k != 0, false), (decide (IntKind.i64.wrap (d + 1) < n), true)], true, (Try.f17, k17, none, b), v17 p n (IntKind.i64.wrap (d + 1)), H') := by kernel_rfl
theorem call17 (p b : Nat) (n d : Int) (H : Heap) : callOf env (atSt Try.f17 k17 none b (v17 p n d) H) = some (14, [ptr p]) := by kernel_rfl
structure NxN (H H' : Heap) (O : List Nat) (m : Nat) : Prop where
  lock : H'.lock = 0
  le : H.next ≤ H'.next
  ge : H'.next ≤ H.next + m
  clean : Ly.Clean H'
  old : ∀ i, i < H.next → i ∉ O → H'.get i = H.get i
def MN (M : Heap → Nat → Js → List Nat → List Nat → Prop) (H : Heap) (p : Nat) (s' : Js) (O V : List Nat) (m : Nat) (H' : Heap) : Prop := NxN H H' O m ∧ ∃ O' V', M H' p s' O' V' ∧ (∀ i ∈ O', i ∈ O ∨ H.next ≤ i) ∧ (∀ i ∈ V', i ∈ V ∨ H.next ≤ i)
theorem MN.step {M : Heap → Nat → Js → List Nat → List Nat → Prop} {H H1 H2 : Heap} {p m : Nat} {s2 : Js} {O V O1 V1 : List Nat} (h1 : Nx H H1 O) (hO : ∀ i ∈ O1, i ∈ O ∨ H.next ≤ i) (hV : ∀ i ∈ V1, i ∈ V ∨ H.next ≤ i) (h2 : MN M H1 p s2 O1 V1 m H2) : MN M H p s2 O V (m + 64) H2 := by
  obtain ⟨⟨a1, a2, a3, a4, a5⟩, O', V', b1, b2, b3⟩ := h2
  refine ⟨⟨a1, by have := h1.le; omega, by have := h1.ge; omega, a4, fun i hi hiO => ?_⟩, O', V', b1, fun i hi => ?_, fun i hi => ?_⟩
  · rw [a5 i (by have := h1.le; omega) (fun h => ?_), h1.old i hi hiO]
    rcases hO i h with h3 | h3
    · exact hiO h3
    · omega
  · rcases b2 i hi with h3 | h3
    · exact hO i h3
    · right; have := h1.le; omega
  · rcases b3 i hi with h3 | h3
    · exact hV i h3
    · right; have := h1.le; omega
theorem MN.of {M : Heap → Nat → Js → List Nat → List Nat → Prop} {H H1 : Heap} {p : Nat} {s1 : Js} {O V O1 V1 : List Nat} (m : Nat) (h1 : Nx H H1 O) (hO : ∀ i ∈ O1, i ∈ O ∨ H.next ≤ i) (hV : ∀ i ∈ V1, i ∈ V ∨ H.next ≤ i) (h : M H1 p s1 O1 V1) : MN M H p s1 O V (m + 64) H1 :=
  ⟨⟨h1.lock, h1.le, by have := h1.ge; omega, h1.clean, h1.old⟩, O1, V1, h, hO, hV⟩
theorem runs_from (n : Int) (hn : n ≤ 1000000) : ∀ (r : Nat) (d : Int) (s : Js), 0 ≤ d → d < n → (n - d).toNat = r → s.Ok → s.q + r < 4294967296 → ∃ s' c k, s'.Ok ∧ s'.q ≤ s.q + r ∧ s'.N = s.N ∧
    (∀ H p O V b, PM H p s O V → H.lock = 0 → Ly.Clean H → H.next + 64 * r < big → MWp Try.prog (atSt Try.f16 k16 none b (v16 p n d) H) (fun u H' => u = cntV c k ∧ MN PM H p s' O V (64 * r) H')) ∧
    (∀ H p O V b, RM H p s O V → H.lock = 0 → Ly.Clean H → H.next + 64 * r < big → MWp Try.prog (atSt Try.f17 k17 none b (v17 p n d) H) (fun u H' => u = cntV c k ∧ MN RM H p s' O V (64 * r) H'))
  | 0, d, s, h0, h1, hr, _, _ => by omega
  | r + 1, d, s, h0, h1, hr, hs, hq => by
    obtain ⟨s1, k, hs1, hq1, hn1, hP, hR⟩ := step_any s hs (by omega)
    have hw : IntKind.i64.wrap (d + 1) = d + 1 := by rw [IntKind.wrap_i64]; omega
    by_cases hk : k = 0
    · by_cases hd : d + 1 < n
      · obtain ⟨s2, c, k2, hs2, hq2, hn2, iP, iR⟩ := runs_from n hn r (d + 1) s1 (by omega) hd (by omega) hs1 (by omega)
        refine ⟨s2, c, k2, hs2, by omega, hn2.trans hn1, fun H p O V b h hl hc hb => ?_, fun H p O V b h hl hc hb => ?_⟩
        · refine MWp.call envOk (call16 p b n d H) (hP H p O V h hl hc (by omega)) ?_
          rintro v H' ⟨rfl, hN, O1, V1, hM, hO, hV⟩
          refine MWp.halted ctxH_ok [0, 1, 6, 13] 60 _ (run16_n p b n d k H H') (by rw [hw]; simp [hk, hd]) ?_
          rw [hw]
          refine (iP H' p O1 V1 b hM hN.lock hN.clean (by have := hN.ge; omega)).mono ?_
          rintro u K ⟨rfl, hK⟩
          exact ⟨rfl, by rw [show 64 * (r + 1) = 64 * r + 64 by omega]; exact MN.step hN hO hV hK⟩
        · refine MWp.call envOk (call17 p b n d H) (hR H p O V h hl hc (by omega)) ?_
          rintro v H' ⟨rfl, hN, O1, V1, hM, hO, hV⟩
          refine MWp.halted ctxH_ok [0, 1, 6, 13] 60 _ (run17_n p b n d k H H') (by rw [hw]; simp [hk, hd]) ?_
          rw [hw]
          refine (iR H' p O1 V1 b hM hN.lock hN.clean (by have := hN.ge; omega)).mono ?_
          rintro u K ⟨rfl, hK⟩
          exact ⟨rfl, by rw [show 64 * (r + 1) = 64 * r + 64 by omega]; exact MN.step hN hO hV hK⟩
      · have hd1 : d + 1 = n := by omega
        refine ⟨s1, n, 0, hs1, by omega, hn1, fun H p O V b h hl hc hb => ?_, fun H p O V b h hl hc hb => ?_⟩
        · refine MWp.call envOk (call16 p b n d H) (hP H p O V h hl hc (by omega)) ?_
          rintro v H' ⟨rfl, hN, O1, V1, hM, hO, hV⟩
          refine MWp.fin ctxH_ok 60 _ (run16_e p b n d k H H') (by rw [hw]; simp [hk, hd]) ⟨by rw [hw, hd1], by rw [show 64 * (r + 1) = 64 * r + 64 by omega]; exact MN.of _ hN hO hV hM⟩
        · refine MWp.call envOk (call17 p b n d H) (hR H p O V h hl hc (by omega)) ?_
          rintro v H' ⟨rfl, hN, O1, V1, hM, hO, hV⟩
          have hneg : decide (n < 0) = false := by simp; omega
          refine MWp.fin ctxH_ok 60 _ (run17_e p b n d k H H') (by rw [hw]; simp [hk, hd]) ⟨by rw [hneg]; rfl, by rw [show 64 * (r + 1) = 64 * r + 64 by omega]; exact MN.of _ hN hO hV hM⟩
    · refine ⟨s1, d, k, hs1, by omega, hn1, fun H p O V b h hl hc hb => ?_, fun H p O V b h hl hc hb => ?_⟩
      · refine MWp.call envOk (call16 p b n d H) (hP H p O V h hl hc (by omega)) ?_
        rintro v H' ⟨rfl, hN, O1, V1, hM, hO, hV⟩
        exact MWp.fin ctxH_ok 60 _ (run16_k p b n d k H H') (by simp [hk]) ⟨rfl, by rw [show 64 * (r + 1) = 64 * r + 64 by omega]; exact MN.of _ hN hO hV hM⟩
      · refine MWp.call envOk (call17 p b n d H) (hR H p O V h hl hc (by omega)) ?_
        rintro v H' ⟨rfl, hN, O1, V1, hM, hO, hV⟩
        exact MWp.fin ctxH_ok 60 _ (run17_k p b n d k H H') (by simp [hk]) ⟨rfl, by rw [show 64 * (r + 1) = 64 * r + 64 by omega]; exact MN.of _ hN hO hV hM⟩
def RunsTo (s : Js) (n : Int) (s' : Js) (c k : Int) (m : Nat) : Prop := (∀ H p O V, PM H p s O V → H.lock = 0 → Ly.Clean H → H.next + m < big → LCalls Try.prog 16 [ptr p, .int .i64 n] H (fun u H' => u = cntV c k ∧ MN PM H p s' O V m H')) ∧ (∀ H p O V, RM H p s O V → H.lock = 0 → Ly.Clean H → H.next + m < big → LCalls Try.prog 17 [ptr p, .int .i64 n] H (fun u H' => u = cntV c k ∧ MN RM H p s' O V m H'))
theorem MN.refl {M : Heap → Nat → Js → List Nat → List Nat → Prop} {H : Heap} {p : Nat} {s : Js} {O V : List Nat} (m : Nat) (hl : H.lock = 0) (hc : Ly.Clean H) (h : M H p s O V) : MN M H p s O V m H :=
  ⟨⟨hl, Nat.le_refl _, by omega, hc, fun _ _ _ => rfl⟩, O, V, h, fun i hi => .inl hi, fun i hi => .inl hi⟩
theorem run_any (n : Int) (hn : n ≤ 1000000) (s : Js) (hs : s.Ok) (hq : s.q + n.toNat < 4294967296) : ∃ s' c k, s'.Ok ∧ s'.q ≤ s.q + n.toNat ∧ s'.N = s.N ∧ RunsTo s n s' c k (64 * n.toNat) := by
  by_cases h0 : 0 < n
  · obtain ⟨s', c, k, h1, h2, h3, hP, hR⟩ := runs_from n hn n.toNat 0 s (by omega) h0 (by omega) hs hq
    refine ⟨s', c, k, h1, h2, h3, fun H p O V h hl hc hb => ?_, fun H p O V h hl hc hb => ?_⟩
    · refine LCalls_of ctxH_ok gH16 (by kernel_rfl) (MWp.halted ctxH_ok [0, 1, 6, 13] 60 _ (run16_1 p n H) (by simp [h0]) ?_)
      exact hP H p O V _ h hl hc hb
    · refine LCalls_of ctxH_ok gH17 (by kernel_rfl) (MWp.halted ctxH_ok [0, 1, 6, 13] 60 _ (run17_1 p n H) (by simp [h0]) ?_)
      exact hR H p O V _ h hl hc hb
  · refine ⟨s, 0, 0, hs, by omega, rfl, fun H p O V h hl hc hb => ?_, fun H p O V h hl hc hb => ?_⟩
    · exact LCalls_of ctxH_ok gH16 (by kernel_rfl) (MWp.fin ctxH_ok 60 _ (run16_0 p n H) (by simp; omega) ⟨rfl, MN.refl _ hl hc h⟩)
    · have e : (bif decide (n < 0) then 0 else n) = 0 := by
        by_cases hneg : n < 0
        · simp [hneg]
        · have : n = 0 := by omega
          simp [this]
      exact LCalls_of ctxH_ok gH17 (by kernel_rfl) (MWp.fin ctxH_ok 60 _ (run17_0 p n H) (by simp; omega) ⟨by rw [e], MN.refl _ hl hc h⟩)
end Go.Proofs.Ytpggoincnebfnaa
namespace Go.Proofs.Ytpggoincnebfnaa
open Go Go.Ly Go.RowKit
def MRowS (w : World) (i : Nat) (a b : Nat → Int) (n : Nat) (loc v : Value) (p : Option Plc) : Prop :=
  (loc = .slice none 0 0 ∧ v = .slice none 0 0 ∧ n = 0 ∧ p = none) ∨ (loc = sls i n ∧ RealRows w 2 (fun e j => match j with | 0 => .int .u16 (a e) | _ + 1 => .int .u8 (b e)) n v p)
theorem m_casesS {w : World} {v : Value} (h : CkOk w (.slice [.int .u16, .int .u8]) v) : ∃ (a b : Nat → Int) (n : Nat) (loc : Value) (p : Option Plc), MRowS w 1 a b n loc v p ∧ (∀ e, e < n → B16 (a e) ∧ B8 (b e)) ∧ n ≤ maxLen := by
  rcases ck_bytes2 h with rfl | ⟨n, a, b, p, hr, hf, hn⟩
  · exact ⟨fun _ => 0, fun _ => 0, 0, .slice none 0 0, none, .inl ⟨rfl, rfl, rfl, rfl⟩, fun e he => by omega, by simp [maxLen]⟩
  · exact ⟨a, b, n, sls 1 n, p, .inr ⟨rfl, hr⟩, hf, hn⟩
theorem calls_startS {W : World} {F : FuncId} {s : Sv} {f a b : Nat → Int} {n k : Nat} {li lm iv mv : Value} {pi pm : Option Plc} {rest : List Value} (hi : InRow W 0 f n li iv pi) (hm : MRowS W 1 a b k lm mv pm) (hp : plainL rest = true)
    (h : LCalls Try.prog F (svV s li lm :: rest) (mkH [some (ints .u8 f n), some (bytes2 a b k)]) (fun u _ => u = .bool true)) :
    Calls Try.prog F ⟨svV s iv mv :: rest⟩ W (fun e W' => e = .returned (.bool true) ∧ Below W.heap.size W W') := by
  have hrep : Rep (rowsRenW [pi, pm] (fun i => if i = 0 then 1 else 2)) (mkH [some (ints .u8 f n), some (bytes2 a b k)]) W := by
    refine rowsW_rep (l := [pi, pm]) (rs := [(1, fun e _ => .int .u8 (f e), n), (2, fun e j => match j with | 0 => .int .u16 (a e) | _ + 1 => .int .u8 (b e), k)]) rfl (by simp) (fun i q hq => ?_) (fun i k' g n' hr => ?_)
    · match i, hq with
      | 0, hq =>
        simp at hq
        rcases hi with ⟨_, _, _, rfl⟩ | ⟨_, hr⟩
        · cases hq
        · exact hr.low q hq
      | 1, hq =>
        simp at hq
        rcases hm with ⟨_, _, _, rfl⟩ | ⟨_, hr⟩
        · cases hq
        · exact hr.low q hq
      | i + 2, hq => simp at hq
    · match i, hr with
      | 0, hr =>
        simp at hr
        obtain ⟨rfl, rfl, rfl⟩ := hr
        refine ⟨rfl, fun e j he hj => ?_⟩
        rcases hi with ⟨_, _, h0, _⟩ | ⟨_, hr⟩
        · omega
        · exact ⟨hr.one e j he hj, hr.cell e j he hj⟩
      | 1, hr =>
        simp at hr
        obtain ⟨rfl, rfl, rfl⟩ := hr
        refine ⟨rfl, fun e j he hj => ?_⟩
        rcases hm with ⟨_, _, h0, _⟩ | ⟨_, hr⟩
        · omega
        · exact ⟨hr.one e j he hj, hr.cell e j he hj⟩
      | i + 2, hr => simp at hr
  have vi : VR (rowsRenW [pi, pm] (fun i => if i = 0 then 1 else 2)) li iv := by
    rcases hi with ⟨rfl, rfl, _, _⟩ | ⟨rfl, hr⟩
    · simp [VR]
    · exact slW_VR hr rfl
  have vm : VR (rowsRenW [pi, pm] (fun i => if i = 0 then 1 else 2)) lm mv := by
    rcases hm with ⟨rfl, rfl, _, _⟩ | ⟨rfl, hr⟩
    · simp [VR]
    · exact VR_sls (slW_VR hr rfl)
  refine calls_ro h rfl ?_ hrep (fun _ => rfl)
  simp only [VRL]
  refine ⟨_, rest, ?_, plainL_VR _ hp, rfl⟩
  simp only [svV, VR, VRL]
  exact ⟨_, ⟨_, _, rfl, ⟨_, _, rfl, ⟨_, _, rfl, ⟨_, _, rfl, ⟨_, _, rfl, ⟨_, _, rfl, ⟨_, _, rfl, ⟨_, _, rfl, ⟨_, _, rfl, ⟨_, _, rfl, ⟨_, _, rfl, ⟨_, _, rfl, ⟨_, _, rfl, ⟨_, _, rfl, ⟨_, _, rfl, ⟨_, _, rfl, ⟨_, _, vi, ⟨_, _, vm, rfl, rfl⟩, rfl⟩, rfl⟩, rfl⟩, rfl⟩, rfl⟩, rfl⟩, rfl⟩, rfl⟩, rfl⟩, rfl⟩, rfl⟩, rfl⟩, rfl⟩, rfl⟩, rfl⟩, rfl⟩, rfl⟩, rfl⟩
end Go.Proofs.Ytpggoincnebfnaa
namespace Go.Proofs.Ytpggoincnebfnaa
open Go Go.Ly Go.RowKit
def Gok (n : Nat) (G : Nat → Nat → Value) : Prop := ∀ e, e < n → ∃ x y, G e 0 = .int .u16 x ∧ G e 1 = .int .u8 y ∧ B16 x ∧ B8 y
theorem Gok.ok {n : Nat} {G : Nat → Nat → Value} (h : Gok n G) (hn : n ≤ 1000) : okM n G = true := by
  unfold okM
  rw [Bool.and_eq_true, Nat.ble_eq, List.all_eq_true]
  refine ⟨hn, fun e he => ?_⟩
  obtain ⟨x, y, h1, h2, h3, h4⟩ := h e (List.mem_range.1 he)
  rw [h1, h2]
  simp [isK, kbeq, intV, h3]
theorem Gok.mem {n : Nat} {G : Nat → Nat → Value} (h : Gok n G) : Mem (memF (atOf G) (byOf G) n) := by
  refine memF_mem n fun e he => ?_
  obtain ⟨x, y, h1, h2, h3, h4⟩ := h e he
  show B8 (intV (G e 1))
  rw [h2]; exact h4
theorem Gok.shift {n : Nat} {G : Nat → Nat → Value} (h : Gok n G) : Gok n (fun i j => G (0 + i) j) := fun e he => by
  simp only [Nat.zero_add]; exact h e he
def bbG (fa fb : Nat → Int) : Nat → Nat → Value := fun e j => match j with | 0 => .int .u16 (fa e) | _ + 1 => .int .u8 (fb e)
theorem Gok.bb {fa fb : Nat → Int} {n : Nat} (h : ∀ e, e < n → B16 (fa e) ∧ B8 (fb e)) : Gok n (bbG fa fb) := fun e he => ⟨fa e, fb e, rfl, rfl, h e he⟩
theorem Gok.nil {G : Nat → Nat → Value} : Gok 0 G := fun e he => by omega
def mOf (s : Sv) : Mc := ⟨s.r0, s.r1, s.r2, s.r3, s.r4, s.r5, s.r7, s.fs, s.fz, s.fx, s.fp, s.fc, s.sp, s.pc, s.ie, false⟩
theorem mOf_ok {s : Sv} (h : s.Ok) : (mOf s).Ok := by
  obtain ⟨⟨h0, h1, h2, h3, h4, h5, h6, h7⟩, h8, h9⟩ := h
  exact ⟨h0, h1, h2, h3, h4, h5, h7, h8, h9⟩
def jOf (s : Sv) (g : Nat → Int) (N : Nat) (f : Nat → Int) : Js := ⟨mOf s, g, 0, N, f, 0, fun _ => 0, fun _ => 0⟩
theorem jOf_ok {s : Sv} {g : Nat → Int} {N : Nat} {f : Nat → Int} (hs : s.Ok) (hg : Mem g) (hf : ∀ e, e < N → B8 (f e)) : (jOf s g N f).Ok := ⟨mOf_ok hs, hg, hf, Nat.zero_le _⟩
structure Opened (H : Heap) (p r : Nat) (s : Js) (O V O2 V2 : List Nat) : Prop where
  lock : H.lock = 0
  clean : Ly.Clean H
  P : PM H p s O V
  R : RM H r s O2 V2
  apart : Apart V V2
end Go.Proofs.Ytpggoincnebfnaa
namespace Go.Proofs.Ytpggoincnebfnaa
open Go Go.Ly Go.RowKit
abbrev TrueAt (F : FuncId) (args : List Value) (r0 r1 : LO) : Prop := LCalls Try.prog F args (mkH [some r0, some r1]) (fun u _ => u = .bool true)
theorem start_law {W : World} {F : FuncId} {v : Value} {rest : List Value} (h : ∃ cs, v = .agg ⟨cs⟩ ∧ CksOk W [.int .u8, .int .u8, .int .u8, .int .u8, .int .u8, .int .u8, .int .u8, .int .u8, .bool, .bool, .bool, .bool, .bool, .int .u16, .int .u16, .bool, .slice [.int .u8], .slice [.int .u16, .int .u8]] cs) (hp : plainL rest = true)
    (hNN : ∀ (s : Sv) (n k : Nat) (f fa fb : Nat → Int), s.Ok → TrueAt F (svV s nilS nilS :: rest) (ints .u8 f n) (bytes2 fa fb k))
    (hNE : ∀ (s : Sv) (n k : Nat) (f fa fb : Nat → Int), s.Ok → TrueAt F (svV s nilS (sls 1 0) :: rest) (ints .u8 f n) (bytes2 fa fb 0))
    (hNR : ∀ (s : Sv) (n k : Nat) (f fa fb : Nat → Int), s.Ok → (∀ e, e < k + 1 → B16 (fa e) ∧ B8 (fb e)) → TrueAt F (svV s nilS (sls 1 (k + 1)) :: rest) (ints .u8 f n) (bytes2 fa fb (k + 1)))
    (hEN : ∀ (s : Sv) (n k : Nat) (f fa fb : Nat → Int), s.Ok → TrueAt F (svV s (sl 0 0) nilS :: rest) (ints .u8 f 0) (bytes2 fa fb k))
    (hEE : ∀ (s : Sv) (n k : Nat) (f fa fb : Nat → Int), s.Ok → TrueAt F (svV s (sl 0 0) (sls 1 0) :: rest) (ints .u8 f 0) (bytes2 fa fb 0))
    (hER : ∀ (s : Sv) (n k : Nat) (f fa fb : Nat → Int), s.Ok → (∀ e, e < k + 1 → B16 (fa e) ∧ B8 (fb e)) → TrueAt F (svV s (sl 0 0) (sls 1 (k + 1)) :: rest) (ints .u8 f 0) (bytes2 fa fb (k + 1)))
    (hRN : ∀ (s : Sv) (n k : Nat) (f fa fb : Nat → Int), s.Ok → (∀ e, e < n + 1 → B8 (f e)) → TrueAt F (svV s (sl 0 (n + 1)) nilS :: rest) (ints .u8 f (n + 1)) (bytes2 fa fb k))
    (hRE : ∀ (s : Sv) (n k : Nat) (f fa fb : Nat → Int), s.Ok → (∀ e, e < n + 1 → B8 (f e)) → TrueAt F (svV s (sl 0 (n + 1)) (sls 1 0) :: rest) (ints .u8 f (n + 1)) (bytes2 fa fb 0))
    (hRR : ∀ (s : Sv) (n k : Nat) (f fa fb : Nat → Int), s.Ok → (∀ e, e < n + 1 → B8 (f e)) → (∀ e, e < k + 1 → B16 (fa e) ∧ B8 (fb e)) → TrueAt F (svV s (sl 0 (n + 1)) (sls 1 (k + 1)) :: rest) (ints .u8 f (n + 1)) (bytes2 fa fb (k + 1))) :
    Calls Try.prog F ⟨v :: rest⟩ W (fun e W' => e = .returned (.bool true) ∧ Below W.heap.size W W') := by
  obtain ⟨s, iv, mv, hs, rfl, hi, hm⟩ := sv_open h
  obtain ⟨f, n, li, pi, hI, hf, _⟩ := in_cases hi
  obtain ⟨a, b, k, lm, pm, hM, hb, _⟩ := m_casesS hm
  refine calls_startS hI hM hp ?_
  rcases hI with ⟨rfl, _, _, _⟩ | ⟨rfl, _⟩ <;> rcases hM with ⟨rfl, _, _, _⟩ | ⟨rfl, _⟩
  · exact hNN s n k f a b hs
  · rcases k with _ | k
    · exact hNE s n 0 f a b hs
    · exact hNR s n k f a b hs hb
  · rcases n with _ | n
    · exact hEN s 0 k f a b hs
    · exact hRN s n k f a b hs hf
  · rcases n with _ | n <;> rcases k with _ | k
    · exact hEE s 0 0 f a b hs
    · exact hER s 0 k f a b hs hb
    · exact hRE s n 0 f a b hs hf
    · exact hRR s n k f a b hs hf hb
end Go.Proofs.Ytpggoincnebfnaa
namespace Go.Proofs.Ytpggoincnebfnaa
open Go Go.Ly Go.RowKit
def sv0 : Sv := ⟨0, 0, 0, 0, 0, 0, 0, 0, false, false, false, false, false, 0, 0, false⟩
def GA (L : List Value) (c : Nat) : Nat → Nat → Value := lstG 2 c L
def gm (G : Nat → Nat → Value) (c : Nat) : Nat → Int := memF (atOf G) (byOf G) c
def gs (g : Nat → Int) : Nat → Int := fun e => g (0 + e)
theorem gs_eq (g : Nat → Int) : gs g = g := by funext e; unfold gs; rw [Nat.zero_add]
def tLi (n : Nat) : Bool × Bool := (decide (((n + 1 : Nat) : Int) ≤ 300) == true, true)
def tR1 (k : Nat) : Bool × Bool := (Nat.ble (0 + (k + 1)) (k + 1) && (true && Nat.ble (0 + (k + 1)) 4294967296), true)
theorem tLi_ok {n : Nat} (h : n + 1 ≤ 300) : trusted [tLi n] := ⟨by show (decide (((n + 1 : Nat) : Int) ≤ 300) == true) = true; rw [decide_eq_true (by omega)]; rfl, trivial⟩
theorem tR1_ok {k : Nat} (h : k ≤ 1000) : trusted [tR1 k] := by
  refine ⟨?_, trivial⟩
  show (Nat.ble (0 + (k + 1)) (k + 1) && (true && Nat.ble (0 + (k + 1)) 4294967296)) = true
  rw [Nat.zero_add, Bool.and_eq_true, Bool.and_eq_true, Nat.ble_eq, Nat.ble_eq]
  exact ⟨Nat.le_refl _, rfl, by omega⟩
theorem tr_cons {x : Bool × Bool} {l : List (Bool × Bool)} (h : trusted [x]) (k : trusted l) : trusted (x :: l) := ⟨h.1, k⟩
end Go.Proofs.Ytpggoincnebfnaa
namespace Go.Proofs.Ytpggoincnebfnaa
open Go Go.Ly Go.RowKit
structure Ent where
  op : Int
  grd : Mc → (Nat → Int) → Bool
  mf : Mc → (Nat → Int) → Mc
  gf : Mc → (Nat → Int) → Nat → Int
end Go.Proofs.Ytpggoincnebfnaa
namespace Go.Proofs.Ytpggoincnebfnaa
open Go Go.Ly Go.RowKit
@[simp] theorem pairlo {h l : Int} (hl : B8 l) : w8 (256 * h + l) = l := by unfold B8 at hl; rw [w8e]; omega
@[simp] theorem pairhi {h l : Int} (hh : B8 h) (hl : B8 l) : w8 ((256 * h + l).fdiv 256) = h := by
  unfold B8 at hh hl
  have : (256 * h + l).fdiv 256 = (256 * h + l) / 256 := Int.fdiv_eq_ediv_of_nonneg _ (by omega)
  rw [w8e, this]; omega
@[simp] theorem wordlo (n : Int) : w8 (w16 n) = n % 256 := by rw [w8e, w16e]; omega
@[simp] theorem wordhi (n : Int) : w8 ((w16 n).fdiv 256) = n % 65536 / 256 := by
  have : (w16 n).fdiv 256 = (w16 n) / 256 := Int.fdiv_eq_ediv_of_nonneg _ (by omega)
  rw [w8e, this, w16e]; omega
end Go.Proofs.Ytpggoincnebfnaa
namespace Go.Ly
open Go.RowKit
def OWo : Option LO → Option LO → Prop
  | _, none => True
  | some a, some b => OW a b
  | none, some _ => False
theorem OWo.refl : ∀ (o : Option LO), OWo o o
  | none => trivial
  | some a => OW.refl a
theorem OWo.cells {c c' : List Value} {t : TypeId} (h : VWL c c') : OWo (some (.cells c t)) (some (.cells c' t)) := OW.cells h
theorem VWL.cons {v u : Value} {r s : List Value} (h : VW v u) (k : VWL r s) : VWL (v :: r) (u :: s) := ⟨u, s, h, k, rfl⟩
theorem VWL.nil : VWL [] [] := rfl
theorem weak_vH {H : Heap} {bs : List Nat} {os os' : List (Option LO)} {nx : Nat} (hn : H.next = nx) (hl : H.lock = 0) (hg : bs.map H.get = os) (hw : Each2 OWo os os') (hb : (nodupB bs && bs.all (fun b => Nat.blt b 2147483000)) = true) : WeakH H (vH bs os' nx) := by
  rw [Bool.and_eq_true] at hb
  have hnd := nodupB_iff bs hb.1
  have hbb : ∀ b ∈ bs, b < big := fun b h => by have := List.all_eq_true.1 hb.2 b h; simpa [Nat.blt_eq, big] using this
  have hlen : bs.length = os'.length := by rw [← hw.length, ← hg]; simp
  obtain ⟨g1, g2⟩ := setZip_get bs os' .nil hlen hbb hnd
  refine ⟨hn.symm, hl.symm, fun i o ho => ?_⟩
  have ho : (setAll (bs.zip os') .nil).get i = some o := ho
  by_cases hi : i ∈ bs
  · obtain ⟨j, hj, e⟩ := List.getElem_of_mem hi
    have e1 := g1 j i _ (by rw [List.getElem?_eq_getElem hj, e]) (List.getElem?_eq_getElem (show j < os'.length by omega))
    rw [e1] at ho
    have h2 := hw.get j (H.get i) (os'[j]'(by omega)) (by rw [← hg, List.getElem?_map, List.getElem?_eq_getElem hj, e]; rfl) (List.getElem?_eq_getElem (by omega))
    rw [ho] at h2
    cases hH : H.get i with
    | none => rw [hH] at h2; exact h2.elim
    | some x => rw [hH] at h2; exact ⟨x, rfl, h2⟩
  · rw [g2 i hi, Tr.get_nil] at ho; cases ho
end Go.Ly
namespace Go.Proofs.Ytpggoincnebfnaa
open Go Go.Ly Go.RowKit
def sCells (s : Sv) (i m : Value) : List Value := [.int .u8 s.r0, .int .u8 s.r1, .int .u8 s.r2, .int .u8 s.r3, .int .u8 s.r4, .int .u8 s.r5, .int .u8 0, .int .u8 s.r7, .bool s.fs, .bool s.fz, .bool s.fx, .bool s.fp, .bool s.fc, .int .u16 s.sp, .int .u16 s.pc, .bool s.ie, i, m]
theorem vwCells {b rg : Nat} {m : Mc} {i o i' o' : Value} (hi : VW i i') (ho : VW o o') : VWL (cellsPb b rg m i o) (cellsPb b rg m i' o') := by
  simp only [cellsPb]
  repeat' (first | exact VWL.nil | exact hi | exact ho | exact VW.refl _ | apply VWL.cons)
theorem plain_mem (g : Nat → Int) : plainO (memL g) := fun e j => by simp [noBlk, blks]
def tMe (n : Nat) : Bool × Bool := (decide ((256 : Int) < ((n + 1 : Nat) : Int)) == false, true)
theorem tMe_ok {n : Nat} (h : n + 1 ≤ 256) : trusted [tMe n] := ⟨by show (decide ((256 : Int) < ((n + 1 : Nat) : Int)) == false) = true; rw [decide_eq_false (by omega)]; rfl, trivial⟩
def tLn8 (k : Nat) : Bool × Bool := ((!(decide (((k + 1 : Nat) : Int) ≤ 300))) == false, true)
theorem tLn8_ok {k : Nat} (h : k + 1 ≤ 300) : trusted [tLn8 k] := ⟨by show ((!(decide (((k + 1 : Nat) : Int) ≤ 300))) == false) = true; rw [decide_eq_true (by omega)]; rfl, trivial⟩
end Go.Proofs.Ytpggoincnebfnaa
namespace Go.Proofs.Ytpggoincnebfnaa
open Go Go.Ly Go.RowKit
theorem tMe8_no {n : Nat} (h : ¬ n + 1 ≤ 256) : trusted [((tMe n).1, false)] := ⟨by show (decide ((256 : Int) < ((n + 1 : Nat) : Int)) == false) = false; rw [decide_eq_true (by omega)]; rfl, trivial⟩
theorem tLi8_no {n : Nat} (h : ¬ n + 1 ≤ 300) : trusted [((tLi n).1, false)] := ⟨by show (decide (((n + 1 : Nat) : Int) ≤ 300) == true) = false; rw [decide_eq_false (by omega)]; rfl, trivial⟩
theorem tLn8_no {k : Nat} (h : ¬ k + 1 ≤ 300) : trusted [((tLn8 k).1, false)] := ⟨by show ((!(decide (((k + 1 : Nat) : Int) ≤ 300))) == false) = false; rw [decide_eq_false (by omega)]; rfl, trivial⟩
end Go.Proofs.Ytpggoincnebfnaa
namespace Go.Proofs.Ytpggoincnebfnaa
open Go Go.Ly Go.RowKit
theorem PM.sub {H : Heap} {p : Nat} {s : Js} {O V : List Nat} (h : PM H p s O V) : ∀ i ∈ O, i ∈ V := by
  obtain ⟨b, rg, iv, ov, VI, VO, h, rfl, rfl⟩ := h
  intro i hi; simp at hi ⊢; grind
theorem InAt.lt {row : (Nat → Int) → Nat → LO} {H : Heap} {iv : Value} {j N : Nat} {f : Nat → Int} {V : List Nat} (hlt : ∀ i o, H.get i = some o → i < H.next) (h : InAt row H iv j N f V) : ∀ i ∈ V, i < H.next := by
  rcases h with ⟨_, rfl, _⟩ | ⟨_, x, rfl, _, hx⟩
  · intro i hi; cases hi
  · intro i hi; simp at hi; subst hi; exact hlt _ _ hx
theorem OutAt.lt {H : Heap} {ov : Value} {q : Nat} {fp fb : Nat → Int} {V : List Nat} (hlt : ∀ i o, H.get i = some o → i < H.next) (h : OutAt H ov q fp fb V) : ∀ i ∈ V, i < H.next := by
  rcases h with ⟨_, rfl, _⟩ | ⟨_, x, rfl, _, hx⟩
  · intro i hi; cases hi
  · intro i hi; simp at hi; subst hi; exact hlt _ _ hx
theorem PM.lt {H : Heap} {p : Nat} {s : Js} {O V : List Nat} (hlt : ∀ i o, H.get i = some o → i < H.next) (h : PM H p s O V) : ∀ i ∈ V, i < H.next := by
  obtain ⟨b, rg, iv, ov, VI, VO, h, rfl, rfl⟩ := h
  intro i hi
  simp only [List.mem_append, List.mem_cons, List.not_mem_nil, or_false] at hi
  rcases hi with (rfl | rfl) | hi | hi
  · exact hlt _ _ h.cells
  · exact hlt _ _ h.mem
  · exact h.inn.lt hlt i hi
  · exact h.out.lt hlt i hi
theorem RM.lt {H : Heap} {p : Nat} {s : Js} {O V : List Nat} (hlt : ∀ i o, H.get i = some o → i < H.next) (h : RM H p s O V) : ∀ i ∈ V, i < H.next := by
  obtain ⟨b, rg, iv, ov, VI, VO, h, rfl, rfl⟩ := h
  intro i hi
  simp only [List.mem_append, List.mem_cons, List.not_mem_nil, or_false] at hi
  rcases hi with (rfl | rfl | rfl) | hi | hi
  · exact hlt _ _ h.cells
  · exact hlt _ _ h.mem
  · exact hlt _ _ h.regs
  · exact h.inn.lt hlt i hi
  · exact h.out.lt hlt i hi
structure Two (H : Heap) (p r : Nat) (s t : Js) (O V O2 V2 : List Nat) : Prop where
  lock : H.lock = 0
  clean : Ly.Clean H
  P : PM H p s O V
  R : RM H r t O2 V2
  apart : Apart V V2
theorem Nx.n {H H' : Heap} {O : List Nat} (h : Nx H H' O) : NxN H H' O 64 := ⟨h.lock, h.le, h.ge, h.clean, h.old⟩
end Go.Proofs.Ytpggoincnebfnaa
namespace Go.Ly
open Go.RowKit
def opVal (E : Env) (S : St) : Option Value :=
  match S.top.k with
  | .ops all (o :: l) :: k =>
    bif guardB all S.top.t S.top.fn.ntmps o && dstOk S.top.fn.ntmps o.dst then
      (match evOp E S.H S.top.t o with
      | .val v => some v
      | _ => none)
    else none
  | _ => none
theorem MWp.val {P : Program} {E : Env} {Q : Value → Heap → Prop} (hE : E.Ok P) {S : St} {v : Value} (h : opVal E S = some v) (hs : MWp P (behind S v S.H) Q) : MWp P S Q := by
  unfold opVal at h
  split at h
  · rename_i all o l k hk
    cases hc : (guardB all S.top.t S.top.fn.ntmps o && dstOk S.top.fn.ntmps o.dst) with
    | false => rw [hc] at h; cases h
    | true =>
      rw [hc] at h; simp only [cond_true] at h
      simp only [Bool.and_eq_true] at hc
      intro ρ w g gs R hr hf hfs hR
      unfold stateWp
      rw [hf.k, hk]
      show wpList P all _ (o :: l) g.a w
      unfold wpList
      rw [guardB_wanted P hf hc.1, if_pos rfl]
      left
      have hgood := evOp_good hE hr hf.t o
      cases he : evOp E S.H S.top.t o with
      | val u =>
        rw [he] at h hgood
        simp only [Option.some.injEq] at h
        subst h
        obtain ⟨v', hv, hrun⟩ := hgood
        unfold Oper.wp; rw [hrun]
        simp only [Oper.upon]
        refine putFr_sound (S := S) (Q := Q) (v := u) (H' := S.H) (k := .ops all l :: k) (dst := o.dst) ?_ hf hfs (Ren.le_refl ρ) (Fresh.refl ρ w) hr (Keep.refl ρ w) hv hR
        unfold putFr
        rw [hc.2]
        unfold behind at hs
        rw [hk] at hs
        exact hs
      | _ => rw [he] at h; cases h
  · cases h
end Go.Ly
namespace Go.Proofs.Ytpggoincnebfnaa
open Go Go.Ly Go.RowKit
end Go.Proofs.Ytpggoincnebfnaa
namespace Go.Ly
open Go.RowKit
theorem sg_mem {L : List Nat} {i : Nat} (h : i < L.length) : memB L (sg L i) = true := by
  rw [memB_iff]; unfold sg
  rw [List.getD_eq_getElem?_getD, List.getElem?_eq_getElem h]; exact List.getElem_mem h
theorem posOf_sg {L : List Nat} (hnd : L.Nodup) {i : Nat} (h : i < L.length) : posOf L (sg L i) = i := by
  have h1 := posOf_get L (sg L i) (sg_mem h)
  have h2 : L[i]? = some (sg L i) := by unfold sg; rw [List.getD_eq_getElem?_getD, List.getElem?_eq_getElem h]; rfl
  exact ((List.getElem?_inj h hnd).1 (h2.trans h1.symm)).symm
mutual
theorem ren_back {L : List Nat} (hnd : L.Nodup) : ∀ (v : Value), blks (fun i => Nat.blt i L.length) v = true → renV (posOf L) (renV (sg L) v) = v ∧ blks (memB L) (renV (sg L) v) = true
  | .bool _, _ => ⟨rfl, rfl⟩
  | .int _ _, _ => ⟨rfl, rfl⟩
  | .string _, _ => ⟨rfl, rfl⟩
  | .pointer none, _ => ⟨rfl, rfl⟩
  | .pointer (some a), h => by
    simp only [blks, Nat.blt_eq] at h
    simp only [renV, blks, posOf_sg hnd h, sg_mem h, and_self]
  | .slice none _ _, _ => ⟨rfl, rfl⟩
  | .slice (some a) n c, h => by
    simp only [blks, Nat.blt_eq] at h
    simp only [renV, blks, posOf_sg hnd h, sg_mem h, and_self]
  | .map none, _ => ⟨rfl, rfl⟩
  | .map (some r), h => by
    simp only [blks, Nat.blt_eq] at h
    simp only [renV, blks, posOf_sg hnd h, sg_mem h, and_self]
  | .func fn ⟨xs⟩ ⟨ys⟩, h => by
    simp only [blks, Bool.and_eq_true] at h
    obtain ⟨h1, h2⟩ := renL_back hnd xs h.1
    obtain ⟨h3, h4⟩ := renL_back hnd ys h.2
    simp only [renV, blks, h1, h2, h3, h4, Bool.and_self, and_self]
  | .nilFunc, _ => ⟨rfl, rfl⟩
  | .iface t x, h => by
    simp only [blks] at h
    obtain ⟨h1, h2⟩ := ren_back hnd x h
    simp only [renV, blks, h1, h2, and_self]
  | .nilIface, _ => ⟨rfl, rfl⟩
  | .agg ⟨xs⟩, h => by
    simp only [blks] at h
    obtain ⟨h1, h2⟩ := renL_back hnd xs h
    simp only [renV, blks, h1, h2, and_self]
  | .tuple ⟨xs⟩, h => by
    simp only [blks] at h
    obtain ⟨h1, h2⟩ := renL_back hnd xs h
    simp only [renV, blks, h1, h2, and_self]
  | .chan _, _ => ⟨rfl, rfl⟩
  | .float _ _, _ => ⟨rfl, rfl⟩
  | .complex _ _ _, _ => ⟨rfl, rfl⟩
theorem renL_back {L : List Nat} (hnd : L.Nodup) : ∀ (l : List Value), blksL (fun i => Nat.blt i L.length) l = true → renL (posOf L) (renL (sg L) l) = l ∧ blksL (memB L) (renL (sg L) l) = true
  | [], _ => ⟨rfl, rfl⟩
  | v :: r, h => by
    simp only [blksL, Bool.and_eq_true] at h
    obtain ⟨h1, h2⟩ := ren_back hnd v h.1
    obtain ⟨h3, h4⟩ := renL_back hnd r h.2
    simp only [renL, blksL, h1, h2, h3, h4, Bool.and_self, and_self]
end
def blksO (n : Nat) : LO → Bool
  | .cells c _ => blksL (fun i => Nat.blt i n) c
  | .row c _ _ => blksL (fun i => Nat.blt i n) c
  | _ => true
theorem renO_back {L : List Nat} (hnd : L.Nodup) : ∀ (o : LO), blksO L.length o = true → colO L (renO (sg L) o) = o ∧ colOB L (renO (sg L) o) = true
  | .cells c t, h => by
    obtain ⟨h1, h2⟩ := renL_back hnd c h
    simp only [renO, colO, colOB, h1, h2, and_self]
  | .row c t z, h => by
    obtain ⟨h1, h2⟩ := renL_back hnd c h
    simp only [renO, colO, colOB, h1, h2, and_self]
  | .fn _ _ _ _, _ => ⟨rfl, rfl⟩
  | .arg _ _ _, _ => ⟨rfl, rfl⟩
theorem renL_length (σ : Nat → Nat) : ∀ (l : List Value), (renL σ l).length = l.length
  | [] => rfl
  | _ :: r => by simp only [renL, List.length_cons, renL_length σ r]
theorem renL_get (σ : Nat → Nat) : ∀ (l : List Value) (i : Nat), (renL σ l)[i]? = (l[i]?).map (renV σ)
  | [], i => rfl
  | _ :: r, 0 => rfl
  | _ :: r, i + 1 => by simpa [renL] using renL_get σ r i
theorem blksL_mem {p : Nat → Bool} : ∀ {l : List Value}, blksL p l = true → ∀ v ∈ l, blks p v = true
  | [], _, v, hv => by cases hv
  | x :: r, hx, v, hv => by
    simp only [blksL, Bool.and_eq_true] at hx
    rcases List.mem_cons.1 hv with rfl | hv
    · exact hx.1
    · exact blksL_mem hx.2 v hv
def sitB (fn : Func) (base : Nat) (vals : List Value) (os : List (Option LO)) : Bool :=
  Nat.beq vals.length fn.ntmps && (Nat.blt fn.ntmps 1000000 && (Nat.ble base os.length && (Nat.blt os.length 1000000 && (blksL (fun i => Nat.blt i os.length) vals && os.all fun o => match o with | some o => blksO os.length o | none => true))))
theorem nodupB_of : ∀ (L : List Nat), L.Nodup → nodupB L = true
  | [], _ => rfl
  | x :: r, h => by
    have h1 := List.nodup_cons.1 h
    simp only [nodupB, Bool.and_eq_true, Bool.not_eq_true']
    exact ⟨by rw [Bool.eq_false_iff, Ne, memB_iff]; exact h1.1, nodupB_of r h1.2⟩
theorem MWp.sit {P : Program} {Q : Value → Heap → Prop} {fn : Func} {k : List KI} {dst : Option Tmp} {base : Nat} {vals : List Value} {os : List (Option LO)} {H : Heap} (L : List Nat) (hB : sitB fn base vals os = true)
    (hl : H.lock = 0) (hnd : L.Nodup) (hlen : L.length = os.length) (hpre : ∀ i, i < base → L[i]? = some i) (hlt : ∀ b ∈ L, b < big)
    (hg : Each2 OWo (L.map H.get) (os.map (Option.map (renO (sg L))))) (hP : ∀ o ∈ os, ∀ x, o = some x → plainO x) (h : MWp P (mkSt fn k dst base vals os) Q) : MWp P (atSt fn k dst base (renL (sg L) vals) H) Q := by
  simp only [sitB, Bool.and_eq_true] at hB
  obtain ⟨b1, b2, b3, b4, b5, b6⟩ := hB
  have b1 := Nat.eq_of_beq_eq_true b1
  have b3' := Nat.le_of_ble_eq_true b3
  have hbb : (nodupB L && L.all fun b => Nat.blt b 2147483000) = true := by
    rw [nodupB_of L hnd, Bool.true_and, List.all_eq_true]
    intro b hb; have := hlt b hb; unfold big at this; rw [Nat.blt_eq]; exact this
  refine MWp.weak (S := atSt fn k dst base (renL (sg L) vals) H) (weak_vH rfl hl rfl hg hbb) ?_
  show MWp P (atSt fn k dst base (renL (sg L) vals) (vH L (os.map (Option.map (renO (sg L)))) H.next)) Q
  have hK := setZip_get L (os.map (Option.map (renO (sg L)))) .nil (by rw [List.length_map]; exact hlen) hlt hnd
  have hK1 : ∀ (i b : Nat), L[i]? = some b → (vH L (os.map (Option.map (renO (sg L)))) H.next).get b = ((os[i]?).getD none).map (renO (sg L)) := fun i b hi => by
    have hil : i < L.length := (List.getElem?_eq_some_iff.1 hi).1
    refine (hK.1 i b _ hi (List.getElem?_eq_getElem (by rw [List.length_map]; omega))).trans ?_
    rw [List.getElem_map, List.getElem?_eq_getElem (by omega)]; rfl
  have hrl := renL_length (sg L) vals
  have hrg := renL_get (sg L) vals
  have hbl : ∀ v ∈ vals, blks (fun i => Nat.blt i L.length) v = true := by rw [hlen]; exact blksL_mem b5
  have ht : ∀ i, i < fn.ntmps → (trArgs (renL (sg L) vals) 0 .nil).get i = (vals[i]?).map (renV (sg L)) := fun i hi => by
    rw [trArgs_get _ 0 .nil (by rw [hrl, b1]; simp only [Nat.blt_eq] at b2; unfold big; omega)]
    simp only [Nat.zero_le, true_and, Nat.zero_add, Nat.sub_zero]
    rw [if_pos (by rw [hrl, b1]; exact hi), hrg]
  have hob : ∀ (i : Nat) (o : LO), os[i]? = some (some o) → blksO L.length o = true := fun i o hi => by
    have := List.all_eq_true.1 b6 _ (List.mem_of_getElem? hi)
    rw [hlen]; exact this
  refine MWp.collect (List.range fn.ntmps) L ?_ ?_ ?_
  · simp only [colB, Bool.and_eq_true]
    refine ⟨rfl, rfl, nodupB_of L hnd, by rw [hlen]; exact b3, by rw [hlen]; exact b4, b2, ?_, ?_, ?_⟩
    · rw [List.all_eq_true]
      intro i hi
      have := hpre i (List.mem_range.1 hi)
      rw [List.getD_eq_getElem?_getD, this]; exact Nat.beq_refl i
    · rw [List.all_eq_true]
      intro i hi
      have hi' : i < fn.ntmps := List.mem_range.1 hi
      have hm : memB (List.range fn.ntmps) i = true := (memB_iff _ _).2 hi
      show (bif memB (List.range fn.ntmps) i then blks (memB L) (((trArgs (renL (sg L) vals) 0 .nil).get i).getD undef) else true) = true
      rw [hm, ht i hi', List.getElem?_eq_getElem (by omega)]
      exact (ren_back hnd _ (hbl _ (List.getElem_mem _))).2
    · rw [List.all_eq_true]
      intro b hb
      obtain ⟨i, hi, e⟩ := List.getElem_of_mem hb
      have e1 := hK1 i b (by rw [List.getElem?_eq_getElem hi, e])
      show (match (vH L (os.map (Option.map (renO (sg L)))) H.next).get b with | some o => colOB L o | none => true) = true
      rw [e1, List.getElem?_eq_getElem (by omega)]
      cases ho : os[i]'(by omega) with
      | none => rfl
      | some o => exact (renO_back hnd o (hob i o (by rw [List.getElem?_eq_getElem (by omega), ho]))).2
  all_goals (
    have hco : colObjs L (vH L (os.map (Option.map (renO (sg L)))) H.next) = os := by
      apply List.ext_getElem?
      intro i
      simp only [colObjs, List.getElem?_map]
      by_cases hi : i < L.length
      · rw [List.getElem?_eq_getElem hi]
        simp only [Option.map_some]
        rw [hK1 i _ (List.getElem?_eq_getElem hi), List.getElem?_eq_getElem (show i < os.length by omega)]
        simp only [Option.getD_some]
        cases ho : os[i]'(by omega) with
        | none => rfl
        | some o =>
          simp only [Option.map_some]
          rw [(renO_back hnd o (hob i o (by rw [List.getElem?_eq_getElem (by omega), ho]))).1]
      · rw [List.getElem?_eq_none (by omega), List.getElem?_eq_none (by omega)]; rfl)
  · show ∀ o ∈ colObjs L (vH L (os.map (Option.map (renO (sg L)))) H.next), _
    rw [hco]; exact hP
  · have hcv : colVals (List.range fn.ntmps) L fn.ntmps (trArgs (renL (sg L) vals) 0 .nil) = vals := by
      apply List.ext_getElem?
      intro i
      simp only [colVals, List.getElem?_map]
      by_cases hi : i < fn.ntmps
      · rw [List.getElem?_eq_getElem (by simpa using hi), List.getElem_range, List.getElem?_eq_getElem (by omega)]
        simp only [Option.map_some]
        rw [(memB_iff _ _).2 (List.mem_range.2 hi), ht i hi, List.getElem?_eq_getElem (by omega)]
        simp only [cond_true, Option.map_some, Option.getD_some]
        rw [(ren_back hnd _ (hbl _ (List.getElem_mem _))).1]
      · rw [List.getElem?_eq_none (by simpa using hi), List.getElem?_eq_none (by omega)]; rfl
    show MWp P (mkSt fn k dst base (colVals (List.range fn.ntmps) L fn.ntmps (trArgs (renL (sg L) vals) 0 .nil)) (colObjs L (vH L (os.map (Option.map (renO (sg L)))) H.next))) Q
    rw [hcv, hco]; exact h
end Go.Ly
namespace Go.Proofs.Ytpggoincnebfnaa
open Go Go.Ly Go.RowKit
def rd9 : St := Ly.start Try.f9 [] H0
set_option maxRecDepth 100000 in
def k9 : List KI := ((Ly.run ctxH 9000 [] (Ly.start Try.f9 [svV sv0 nilS nilS, .int .i64 0] (mkH [some (ints .u8 (fun _ => 0) 0), some (bytes2 (fun _ => 0) (fun _ => 0) 0)]))).st rd9).top.k
def v9 (a b : Nat) (st : Int) (iv : Value) : List Value := slots 188 [(1, .int .i64 st), (2, ptr 2), (5, sl 4 65536), (6, sl 6 65536), (7, iv), (9, ptr a), (11, ptr b), (83, ptr a), (84, .int .i64 st)]
def tTh9 (st : Int) : Bool × Bool := (decide ((100 : Int) < st), false)
theorem tTh9_ok {st : Int} (h : st ≤ 100) : trusted [tTh9 st] := ⟨decide_eq_false (by omega), trivial⟩
theorem tTh9_no {st : Int} (h : 100 < st) : trusted [((tTh9 st).1, true)] := ⟨decide_eq_true h, trivial⟩
def tMz (n : Nat) : Bool × Bool := (decide ((256 : Int) < ((0 + (n + 1) : Nat) : Int)), false)
theorem tMz_ok {n : Nat} (h : n + 1 ≤ 256) : trusted [tMz n] := ⟨decide_eq_false (by omega), trivial⟩
def tRz (n : Nat) : Bool × Bool := (Nat.ble (0 + (0 + (n + 1))) (n + 1) && (true && Nat.ble (0 + (0 + (n + 1))) 4294967296), true)
theorem tRz_ok {n : Nat} (h : n ≤ 1000) : trusted [tRz n] := by
  refine ⟨?_, trivial⟩
  show (Nat.ble (0 + (0 + (n + 1))) (n + 1) && (true && Nat.ble (0 + (0 + (n + 1))) 4294967296)) = true
  rw [Nat.zero_add, Nat.zero_add, Bool.and_eq_true, Bool.and_eq_true, Nat.ble_eq, Nat.ble_eq]
  exact ⟨Nat.le_refl _, rfl, by omega⟩
def okBB (fa fb : Nat → Int) (k : Nat) : Bool × Bool := (Nat.ble (0 + (k + 1)) (k + 1) && okM (k + 1) (fun i j => bbG fa fb (0 + i) j), true)
theorem okBB_ok {fa fb : Nat → Int} {k : Nat} (h : ∀ e, e < k + 1 → B16 (fa e) ∧ B8 (fb e)) (hk : k + 1 ≤ 300) : trusted [okBB fa fb k] := by
  refine ⟨?_, trivial⟩
  show (Nat.ble (0 + (k + 1)) (k + 1) && okM (k + 1) (fun i j => bbG fa fb (0 + i) j)) = true
  rw [((Gok.bb h).shift).ok (by omega), Nat.zero_add, Bool.and_true, Nat.ble_eq]; exact Nat.le_refl _
def gZ : Nat → Int := gm (GA [] 0) 0
def gBB (fa fb : Nat → Int) (k : Nat) : Nat → Int := gm (fun i j => bbG fa fb (0 + i) j) (k + 1)
set_option maxRecDepth 100000 in
theorem e9_NN (s : Sv) (n k : Nat) (f fa fb : Nat → Int) (st : Int) : haltH [1, 2, 5, 6, 7, 9, 11, 83, 84] [13, 12, 18, 17, 2, 4, 6, 0, 1, 7] 19 rd9 (Ly.run ctxH 9000 [(13, false)] (Ly.start Try.f9 [svV s nilS nilS, .int .i64 st] (mkH [some (ints .u8 f n), some (bytes2 fa fb k)]))) =
  (true, [tTh9 st], true, (Try.f9, k9, some 18, 2), v9 13 18 st (.slice (some ⟨7, 0, none⟩) 0 0), (true, true, true), [some (.cells (cellsPb 12 0 (mOf s) (.slice (some ⟨10, 0, none⟩) 0 0) nilV) 60), some (memL (gs gZ)), some (.cells (cellsPb 17 0 (mOf s) (.slice (some ⟨15, 0, none⟩) 0 0) nilV) 60), some (memL (gs gZ)), some (.cells (sCells s nilS nilS) 29), some (memL gZ), some (memL (gs gZ)), some (ints .u8 f n), some (bytes2 fa fb k), some (.cells [] 5)]) := by kernel_rfl
set_option maxRecDepth 100000 in
theorem e9_NE (s : Sv) (n k : Nat) (f fa fb : Nat → Int) (st : Int) : haltH [1, 2, 5, 6, 7, 9, 11, 83, 84] [13, 12, 18, 17, 2, 4, 6, 0, 1, 7] 19 rd9 (Ly.run ctxH 9000 [(13, false)] (Ly.start Try.f9 [svV s nilS (sls 1 0), .int .i64 st] (mkH [some (ints .u8 f n), some (bytes2 fa fb 0)]))) =
  (true, [tTh9 st], true, (Try.f9, k9, some 18, 2), v9 13 18 st (.slice (some ⟨7, 0, none⟩) 0 0), (true, true, true), [some (.cells (cellsPb 12 0 (mOf s) (.slice (some ⟨10, 0, none⟩) 0 0) nilV) 60), some (memL (gs gZ)), some (.cells (cellsPb 17 0 (mOf s) (.slice (some ⟨15, 0, none⟩) 0 0) nilV) 60), some (memL (gs gZ)), some (.cells (sCells s nilS (sls 1 0)) 29), some (memL gZ), some (memL (gs gZ)), some (ints .u8 f n), some (bytes2 fa fb 0), some (.cells [] 5)]) := by kernel_rfl
set_option maxRecDepth 100000 in
theorem e9_NR (s : Sv) (n k : Nat) (f fa fb : Nat → Int) (st : Int) : haltH [1, 2, 5, 6, 7, 9, 11, 83, 84] [13, 12, 18, 17, 2, 4, 6, 0, 1, 7] 19 rd9 (Ly.run ctxH 9000 [(5, true), (7, false), (1, true)] (Ly.start Try.f9 [svV s nilS (sls 1 (k + 1)), .int .i64 st] (mkH [some (ints .u8 f n), some (bytes2 fa fb (k + 1))]))) =
  (true, [tLn8 k, tTh9 st, okBB fa fb k], true, (Try.f9, k9, some 18, 2), v9 13 18 st (.slice (some ⟨7, 0, none⟩) 0 0), (true, true, true), [some (.cells (cellsPb 12 0 (mOf s) (.slice (some ⟨10, 0, none⟩) 0 0) nilV) 60), some (memL (gs (gBB fa fb k))), some (.cells (cellsPb 17 0 (mOf s) (.slice (some ⟨15, 0, none⟩) 0 0) nilV) 60), some (memL (gs (gBB fa fb k))), some (.cells (sCells s nilS (sls 1 (k + 1))) 29), some (memL (gBB fa fb k)), some (memL (gs (gBB fa fb k))), some (ints .u8 f n), some (bytes2 fa fb (k + 1)), some (.cells [] 5)]) := by kernel_rfl
set_option maxRecDepth 100000 in
theorem e9_EN (s : Sv) (n k : Nat) (f fa fb : Nat → Int) (st : Int) : haltH [1, 2, 5, 6, 7, 9, 11, 83, 84] [13, 12, 18, 17, 2, 4, 6, 0, 1, 7] 19 rd9 (Ly.run ctxH 9000 [(13, false)] (Ly.start Try.f9 [svV s (sl 0 0) nilS, .int .i64 st] (mkH [some (ints .u8 f 0), some (bytes2 fa fb k)]))) =
  (true, [tTh9 st], true, (Try.f9, k9, some 18, 2), v9 13 18 st (.slice (some ⟨7, 0, none⟩) 0 0), (true, true, true), [some (.cells (cellsPb 12 0 (mOf s) (.slice (some ⟨10, 0, none⟩) 0 0) nilV) 60), some (memL (gs gZ)), some (.cells (cellsPb 17 0 (mOf s) (.slice (some ⟨15, 0, none⟩) 0 0) nilV) 60), some (memL (gs gZ)), some (.cells (sCells s (sl 0 0) nilS) 29), some (memL gZ), some (memL (gs gZ)), some (ints .u8 f 0), some (bytes2 fa fb k), some (.cells [] 5)]) := by kernel_rfl
set_option maxRecDepth 100000 in
theorem e9_EE (s : Sv) (n k : Nat) (f fa fb : Nat → Int) (st : Int) : haltH [1, 2, 5, 6, 7, 9, 11, 83, 84] [13, 12, 18, 17, 2, 4, 6, 0, 1, 7] 19 rd9 (Ly.run ctxH 9000 [(13, false)] (Ly.start Try.f9 [svV s (sl 0 0) (sls 1 0), .int .i64 st] (mkH [some (ints .u8 f 0), some (bytes2 fa fb 0)]))) =
  (true, [tTh9 st], true, (Try.f9, k9, some 18, 2), v9 13 18 st (.slice (some ⟨7, 0, none⟩) 0 0), (true, true, true), [some (.cells (cellsPb 12 0 (mOf s) (.slice (some ⟨10, 0, none⟩) 0 0) nilV) 60), some (memL (gs gZ)), some (.cells (cellsPb 17 0 (mOf s) (.slice (some ⟨15, 0, none⟩) 0 0) nilV) 60), some (memL (gs gZ)), some (.cells (sCells s (sl 0 0) (sls 1 0)) 29), some (memL gZ), some (memL (gs gZ)), some (ints .u8 f 0), some (bytes2 fa fb 0), some (.cells [] 5)]) := by kernel_rfl
set_option maxRecDepth 100000 in
theorem e9_ER (s : Sv) (n k : Nat) (f fa fb : Nat → Int) (st : Int) : haltH [1, 2, 5, 6, 7, 9, 11, 83, 84] [13, 12, 18, 17, 2, 4, 6, 0, 1, 7] 19 rd9 (Ly.run ctxH 9000 [(5, true), (7, false), (1, true)] (Ly.start Try.f9 [svV s (sl 0 0) (sls 1 (k + 1)), .int .i64 st] (mkH [some (ints .u8 f 0), some (bytes2 fa fb (k + 1))]))) =
  (true, [tLn8 k, tTh9 st, okBB fa fb k], true, (Try.f9, k9, some 18, 2), v9 13 18 st (.slice (some ⟨7, 0, none⟩) 0 0), (true, true, true), [some (.cells (cellsPb 12 0 (mOf s) (.slice (some ⟨10, 0, none⟩) 0 0) nilV) 60), some (memL (gs (gBB fa fb k))), some (.cells (cellsPb 17 0 (mOf s) (.slice (some ⟨15, 0, none⟩) 0 0) nilV) 60), some (memL (gs (gBB fa fb k))), some (.cells (sCells s (sl 0 0) (sls 1 (k + 1))) 29), some (memL (gBB fa fb k)), some (memL (gs (gBB fa fb k))), some (ints .u8 f 0), some (bytes2 fa fb (k + 1)), some (.cells [] 5)]) := by kernel_rfl
set_option maxRecDepth 100000 in
theorem e9_RN (s : Sv) (n k : Nat) (f fa fb : Nat → Int) (st : Int) : haltH [1, 2, 5, 6, 7, 9, 11, 83, 84] [15, 14, 21, 20, 2, 4, 6, 0, 1, 8, 12, 18] 22 rd9 (Ly.run ctxH 9000 [(0, true), (9, true), (2, false), (5, true), (14, false), (1, true), (18, false), (1, true)] (Ly.start Try.f9 [svV s (sl 0 (n + 1)) nilS, .int .i64 st] (mkH [some (ints .u8 f (n + 1)), some (bytes2 fa fb k)]))) =
  (true, [tLi n, tMe n, tTh9 st, tR1 n, tMz n, tRz n, tMz n, tRz n], true, (Try.f9, k9, some 18, 2), v9 15 21 st (inV 8 0 (0 + (n + 1))), (true, true, true), [some (.cells (cellsPb 14 0 (mOf s) (inV 12 0 (0 + (0 + (n + 1)))) nilV) 60), some (memL (gs gZ)), some (.cells (cellsPb 20 0 (mOf s) (inV 18 0 (0 + (0 + (n + 1)))) nilV) 60), some (memL (gs gZ)), some (.cells (sCells s (sl 0 (n + 1)) nilS) 29), some (memL gZ), some (memL (gs gZ)), some (ints .u8 f (n + 1)), some (bytes2 fa fb k), some (rowP (fun e => f (0 + e)) (n + 1)), some (rowP (fun e => f (0 + (0 + e))) (0 + (n + 1))), some (rowP (fun e => f (0 + (0 + e))) (0 + (n + 1)))]) := by kernel_rfl
set_option maxRecDepth 100000 in
theorem e9_RE (s : Sv) (n k : Nat) (f fa fb : Nat → Int) (st : Int) : haltH [1, 2, 5, 6, 7, 9, 11, 83, 84] [15, 14, 21, 20, 2, 4, 6, 0, 1, 8, 12, 18] 22 rd9 (Ly.run ctxH 9000 [(0, true), (9, true), (2, false), (5, true), (14, false), (1, true), (18, false), (1, true)] (Ly.start Try.f9 [svV s (sl 0 (n + 1)) (sls 1 0), .int .i64 st] (mkH [some (ints .u8 f (n + 1)), some (bytes2 fa fb 0)]))) =
  (true, [tLi n, tMe n, tTh9 st, tR1 n, tMz n, tRz n, tMz n, tRz n], true, (Try.f9, k9, some 18, 2), v9 15 21 st (inV 8 0 (0 + (n + 1))), (true, true, true), [some (.cells (cellsPb 14 0 (mOf s) (inV 12 0 (0 + (0 + (n + 1)))) nilV) 60), some (memL (gs gZ)), some (.cells (cellsPb 20 0 (mOf s) (inV 18 0 (0 + (0 + (n + 1)))) nilV) 60), some (memL (gs gZ)), some (.cells (sCells s (sl 0 (n + 1)) (sls 1 0)) 29), some (memL gZ), some (memL (gs gZ)), some (ints .u8 f (n + 1)), some (bytes2 fa fb 0), some (rowP (fun e => f (0 + e)) (n + 1)), some (rowP (fun e => f (0 + (0 + e))) (0 + (n + 1))), some (rowP (fun e => f (0 + (0 + e))) (0 + (n + 1)))]) := by kernel_rfl
set_option maxRecDepth 100000 in
theorem e9_RR (s : Sv) (n k : Nat) (f fa fb : Nat → Int) (st : Int) : haltH [1, 2, 5, 6, 7, 9, 11, 83, 84] [15, 14, 21, 20, 2, 4, 6, 0, 1, 8, 12, 18] 22 rd9 (Ly.run ctxH 9000 [(0, true), (4, true), (4, true), (2, false), (1, true), (3, true), (14, false), (1, true), (18, false), (1, true)] (Ly.start Try.f9 [svV s (sl 0 (n + 1)) (sls 1 (k + 1)), .int .i64 st] (mkH [some (ints .u8 f (n + 1)), some (bytes2 fa fb (k + 1))]))) =
  (true, [tLi n, tLn8 k, tMe n, tTh9 st, okBB fa fb k, tR1 n, tMz n, tRz n, tMz n, tRz n], true, (Try.f9, k9, some 18, 2), v9 15 21 st (inV 8 0 (0 + (n + 1))), (true, true, true), [some (.cells (cellsPb 14 0 (mOf s) (inV 12 0 (0 + (0 + (n + 1)))) nilV) 60), some (memL (gs (gBB fa fb k))), some (.cells (cellsPb 20 0 (mOf s) (inV 18 0 (0 + (0 + (n + 1)))) nilV) 60), some (memL (gs (gBB fa fb k))), some (.cells (sCells s (sl 0 (n + 1)) (sls 1 (k + 1))) 29), some (memL (gBB fa fb k)), some (memL (gs (gBB fa fb k))), some (ints .u8 f (n + 1)), some (bytes2 fa fb (k + 1)), some (rowP (fun e => f (0 + e)) (n + 1)), some (rowP (fun e => f (0 + (0 + e))) (0 + (n + 1))), some (rowP (fun e => f (0 + (0 + e))) (0 + (n + 1)))]) := by kernel_rfl
end Go.Proofs.Ytpggoincnebfnaa
end
