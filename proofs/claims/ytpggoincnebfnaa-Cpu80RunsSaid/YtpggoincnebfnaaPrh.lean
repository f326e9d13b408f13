/- Part 8 of the texts that the law needs, laid together. By program (pack.py). -/
import Derived.Test.YtpggoincnebfnaaPrg
import Derived.KernelRfl
set_option linter.unusedVariables false
set_option linter.unusedSimpArgs false
noncomputable section
namespace Go.Proofs.Ytpggoincnebfnaa
open Go Go.Ly Go.RowKit
variable (m : Mc) (g : Nat → Int) (b1 b2 : Int)
@[simp] def zf0_0 (m : Mc) (g : Nat → Int) : Mc := { m with pc := or16 (w16 (g (ix (w16 (w16 (m.sp + 2) - 2))))) (w16 (w16 (g (ix (w16 (w16 (w16 (m.sp + 2) - 2) + 1)))) * 256)), sp := w16 (m.sp + 2) }
theorem pf0_0 : endsAt [0, 1] (Ly.run ctx3 3000 [(43, true), (0, true), (0, true), (0, true), (0, true)] (sP m g 240 b1 b2)) = some (T [m.fs == false, rg (w16 (w16 (m.sp + 2) - 2)), bl (ix (w16 (w16 (m.sp + 2) - 2))), rg (w16 (w16 (w16 (m.sp + 2) - 2) + 1)), bl (ix (w16 (w16 (w16 (m.sp + 2) - 2) + 1)))], .int .i64 0, 6, hPm (zf0_0 m g) (memL g)) := by kernel_rfl
theorem pf0_1 : endsAt [0, 1] (Ly.run ctx3 3000 [(43, false)] (sP m g 240 b1 b2)) = some ([(m.fs == false, false)], .int .i64 0, 6, hPm { m with pc := w16 (m.pc + 1) } (memL g)) := by kernel_rfl
theorem rf0_0 : endsAt [0, 1, 2] (Ly.run ctx3 3000 [(4, true), (52, true), (0, true), (0, true), (0, true), (0, true), (0, true), (0, true), (0, true)] (sR m g 240)) = some (T [inw m.pc && true, !m.fs, inw m.sp && true, rg (w16 (m.sp + 1)), bl (ix (w16 (m.sp + 1))), rg (m.sp), bl (ix m.sp), inb (g (ix (w16 (m.sp + 1)))) && inb (g (ix m.sp)), inw m.sp && true], .int .i64 0, 4, hRm { m with pc := 256 * g (ix (w16 (m.sp + 1))) + g (ix m.sp), sp := w16 (m.sp + 2) } (memL g)) := by kernel_rfl
theorem rf0_1 : endsAt [0, 1, 2] (Ly.run ctx3 3000 [(4, true), (52, false)] (sR m g 240)) = some ([(inw m.pc && true, true), (!m.fs, false)], .int .i64 0, 4, hRm { m with pc := w16 (m.pc + 1) } (memL g)) := by kernel_rfl
theorem of0 (hm : m.Ok) (hg : ∀ e, B8 (g e)) (hh : m.halt = false) (h0 : g (ix m.pc) = 240) : Both m g := by
  obtain ⟨r0, r1, r2, r3, r4, r5, r7, sp, pc⟩ := id hm
  cases hf : m.fs
  · exact joinA (m' := (zf0_0 m g)) hm hh h0 (pf0_0 m g _ _) (rf0_0 m g) hg
  · exact joinA (m' := { m with pc := w16 (m.pc + 1) }) hm hh h0 (pf0_1 m g _ _) (rf0_1 m g) hg
@[simp] def zf1_0 (m : Mc) (g : Nat → Int) : Mc := { m with fc := w8 (or16 (w16 (g (ix (w16 (w16 (m.sp + 2) - 2))))) (w16 (w16 (g (ix (w16 (w16 (w16 (m.sp + 2) - 2) + 1)))) * 256))) % 2 == 1, fp := w8 (or16 (w16 (g (ix (w16 (w16 (m.sp + 2) - 2))))) (w16 (w16 (g (ix (w16 (w16 (w16 (m.sp + 2) - 2) + 1)))) * 256))) / 4 % 2 == 1, fs := decide (128 ≤ w8 (or16 (w16 (g (ix (w16 (w16 (m.sp + 2) - 2))))) (w16 (w16 (g (ix (w16 (w16 (w16 (m.sp + 2) - 2) + 1)))) * 256)))), fx := w8 (or16 (w16 (g (ix (w16 (w16 (m.sp + 2) - 2))))) (w16 (w16 (g (ix (w16 (w16 (w16 (m.sp + 2) - 2) + 1)))) * 256))) / 16 % 2 == 1, fz := w8 (or16 (w16 (g (ix (w16 (w16 (m.sp + 2) - 2))))) (w16 (w16 (g (ix (w16 (w16 (w16 (m.sp + 2) - 2) + 1)))) * 256))) / 64 % 2 == 1, pc := w16 (m.pc + 1), r7 := w8 ((or16 (w16 (g (ix (w16 (w16 (m.sp + 2) - 2))))) (w16 (w16 (g (ix (w16 (w16 (w16 (m.sp + 2) - 2) + 1)))) * 256))).fdiv 256), sp := w16 (m.sp + 2) }
theorem pf1_0 : endsAt [0, 1] (Ly.run ctx3 3000 [(45, true), (0, true), (0, true), (0, true), (3, true)] (sP m g 241 b1 b2)) = some (T [rg (w16 (w16 (m.sp + 2) - 2)), bl (ix (w16 (w16 (m.sp + 2) - 2))), rg (w16 (w16 (w16 (m.sp + 2) - 2) + 1)), bl (ix (w16 (w16 (w16 (m.sp + 2) - 2) + 1))), inb (w8 (or16 (w16 (g (ix (w16 (w16 (m.sp + 2) - 2))))) (w16 (w16 (g (ix (w16 (w16 (w16 (m.sp + 2) - 2) + 1)))) * 256))))], .int .i64 0, 5, hPm (zf1_0 m g) (memL g)) := by kernel_rfl
theorem rf1_0 : endsAt [0, 1, 2] (Ly.run ctx3 3000 [(4, true), (33, true), (0, true), (0, true), (0, true), (0, true), (0, true), (0, true), (2, true)] (sR m g 241)) = some (T [inw m.pc && true, inw m.sp && true, rg (w16 (m.sp + 1)), bl (ix (w16 (m.sp + 1))), rg (m.sp), bl (ix m.sp), inb (g (ix (w16 (m.sp + 1)))) && inb (g (ix m.sp)), inw m.sp && true, inb (w8 (and16 (256 * g (ix (w16 (m.sp + 1))) + g (ix m.sp)) 255))], .int .i64 0, 3, hRm { m with fc := w8 (and16 (256 * g (ix (w16 (m.sp + 1))) + g (ix m.sp)) 255) % 2 == 1, fp := w8 (and16 (256 * g (ix (w16 (m.sp + 1))) + g (ix m.sp)) 255) / 4 % 2 == 1, fs := decide (128 ≤ w8 (and16 (256 * g (ix (w16 (m.sp + 1))) + g (ix m.sp)) 255)), fx := w8 (and16 (256 * g (ix (w16 (m.sp + 1))) + g (ix m.sp)) 255) / 16 % 2 == 1, fz := w8 (and16 (256 * g (ix (w16 (m.sp + 1))) + g (ix m.sp)) 255) / 64 % 2 == 1, pc := w16 (m.pc + 1), r7 := w8 ((256 * g (ix (w16 (m.sp + 1))) + g (ix m.sp)).fdiv 256), sp := w16 (m.sp + 2) } (memL g)) := by kernel_rfl
theorem of1 (hm : m.Ok) (hg : ∀ e, B8 (g e)) (hh : m.halt = false) (h0 : g (ix m.pc) = 241) : Both m g := by
  obtain ⟨r0, r1, r2, r3, r4, r5, r7, sp, pc⟩ := id hm
  exact joinA (m' := (zf1_0 m g)) hm hh h0 (pf1_0 m g _ _) (rf1_0 m g) hg
theorem pf2_0 : endsAt [0, 1] (Ly.run ctx3 3000 [(51, true)] (sP m g 242 b1 b2)) = some (T [m.fs == false], .int .i64 0, 6, hPm { m with pc := or16 (w16 (or16 0 (w16 b2) * 256)) (w16 b1) } (memL g)) := by kernel_rfl
theorem pf2_1 : endsAt [0, 1] (Ly.run ctx3 3000 [(51, false)] (sP m g 242 b1 b2)) = some ([(m.fs == false, false)], .int .i64 0, 6, hPm { m with pc := w16 (m.pc + 3) } (memL g)) := by kernel_rfl
theorem rf2_0 : endsAt [0, 1, 2] (Ly.run ctx3 3000 [(3, true), (0, true), (0, true), (1, true), (0, true), (0, true), (0, true), (62, true)] (sR m g 242)) = some (T [inw m.pc && true, rg (w16 (m.pc + 1)), bl (ix (w16 (m.pc + 1))), inw m.pc && true, rg (w16 (m.pc + 2)), bl (ix (w16 (m.pc + 2))), inw m.pc && true, !m.fs], .int .i64 0, 4, hRm { m with pc := w16 (w16 (g (ix (w16 (m.pc + 1)))) + w16 (w16 (g (ix (w16 (m.pc + 2)))) * 256)) } (memL g)) := by kernel_rfl
theorem rf2_1 : endsAt [0, 1, 2] (Ly.run ctx3 3000 [(3, true), (0, true), (0, true), (1, true), (0, true), (0, true), (0, true), (62, false)] (sR m g 242)) = some ([(inw m.pc && true, true), (rg (w16 (m.pc + 1)), true), (bl (ix (w16 (m.pc + 1))), true), (inw m.pc && true, true), (rg (w16 (m.pc + 2)), true), (bl (ix (w16 (m.pc + 2))), true), (inw m.pc && true, true), (!m.fs, false)], .int .i64 0, 4, hRm { m with pc := w16 (m.pc + 3) } (memL g)) := by kernel_rfl
theorem of2 (hm : m.Ok) (hg : ∀ e, B8 (g e)) (hh : m.halt = false) (h0 : g (ix m.pc) = 242) : Both m g := by
  obtain ⟨r0, r1, r2, r3, r4, r5, r7, sp, pc⟩ := id hm
  cases hf : m.fs
  · exact joinA (m' := { m with pc := or16 (w16 (or16 0 (w16 (g (at1 m.pc 2))) * 256)) (w16 (g (at1 m.pc 1))) }) hm hh h0 (pf2_0 m g _ _) (rf2_0 m g) hg
  · exact joinA (m' := { m with pc := w16 (m.pc + 3) }) hm hh h0 (pf2_1 m g _ _) (rf2_1 m g) hg
@[simp] def zf3_0 (m : Mc) : Mc := { m with ie := false, pc := w16 (m.pc + 1) }
theorem pf3_0 : endsAt [0, 1] (Ly.run ctx3 3000 [] (sP m g 243 b1 b2)) = some (T [], .int .i64 0, 5, hPm (zf3_0 m) (memL g)) := by kernel_rfl
theorem rf3_0 : endsAt [0, 1, 2] (Ly.run ctx3 3000 [(4, true), (70, true)] (sR m g 243)) = some (T [inw m.pc && true, inb m.r4 && inb m.r5], .int .i64 0, 3, hRm (zf3_0 m) (memL g)) := by kernel_rfl
theorem of3 (hm : m.Ok) (hg : ∀ e, B8 (g e)) (hh : m.halt = false) (h0 : g (ix m.pc) = 243) : Both m g := by
  obtain ⟨r0, r1, r2, r3, r4, r5, r7, sp, pc⟩ := id hm
  exact joinA (m' := (zf3_0 m)) hm hh h0 (pf3_0 m g _ _) (rf3_0 m g) hg
theorem pf4_0 : endsAt [0, 1] (Ly.run ctx3 3000 [(53, true), (3, true), (0, true), (2, true), (0, true)] (sP m g 244 b1 b2)) = some (T [m.fs == false, rg (w16 (m.sp - 2)), bl (ix (w16 (m.sp - 2))), rg (w16 (w16 (m.sp - 2) + 1)), bl (ix (w16 (w16 (m.sp - 2) + 1)))], .int .i64 0, 7, hPm { m with pc := or16 (w16 (or16 0 (w16 b2) * 256)) (w16 b1), sp := w16 (m.sp - 2) } (M2 g (ix (w16 (m.sp - 2))) (w8 (w16 (m.pc + 3))) (ix (w16 (w16 (m.sp - 2) + 1))) (w8 ((w16 (m.pc + 3)).fdiv 256)))) := by kernel_rfl
theorem pf4_1 : endsAt [0, 1] (Ly.run ctx3 3000 [(53, false)] (sP m g 244 b1 b2)) = some ([(m.fs == false, false)], .int .i64 0, 6, hPm { m with pc := w16 (m.pc + 3) } (memL g)) := by kernel_rfl
theorem rf4_0 : endsAt [0, 1, 2] (Ly.run ctx3 3000 [(3, true), (0, true), (0, true), (1, true), (0, true), (0, true), (0, true), (72, true), (0, true), (0, true), (1, true), (0, true), (0, true), (0, true)] (sR m g 244)) = some (T [inw m.pc && true, rg (w16 (m.pc + 1)), bl (ix (w16 (m.pc + 1))), inw m.pc && true, rg (w16 (m.pc + 2)), bl (ix (w16 (m.pc + 2))), inw m.pc && true, !m.fs, inw m.sp && true, inw (w16 (m.sp + -2)) && true, rg (w16 (w16 (m.sp + -2) + 1)), bl (ix (w16 (w16 (m.sp + -2) + 1))), rg (w16 (m.sp + -2)), bl (ix (w16 (m.sp + -2)))], .int .i64 0, 4, hRm { m with pc := w16 (w16 (g (ix (w16 (m.pc + 1)))) + w16 (w16 (g (ix (w16 (m.pc + 2)))) * 256)), sp := w16 (m.sp + -2) } (M2 g (ix (w16 (w16 (m.sp + -2) + 1))) (w8 ((w16 (m.pc + 3)).fdiv 256)) (ix (w16 (m.sp + -2))) (w8 (and16 (w16 (m.pc + 3)) 255)))) := by kernel_rfl
theorem rf4_1 : endsAt [0, 1, 2] (Ly.run ctx3 3000 [(3, true), (0, true), (0, true), (1, true), (0, true), (0, true), (0, true), (72, false)] (sR m g 244)) = some ([(inw m.pc && true, true), (rg (w16 (m.pc + 1)), true), (bl (ix (w16 (m.pc + 1))), true), (inw m.pc && true, true), (rg (w16 (m.pc + 2)), true), (bl (ix (w16 (m.pc + 2))), true), (inw m.pc && true, true), (!m.fs, false)], .int .i64 0, 4, hRm { m with pc := w16 (m.pc + 3) } (memL g)) := by kernel_rfl
theorem of4 (hm : m.Ok) (hg : ∀ e, B8 (g e)) (hh : m.halt = false) (h0 : g (ix m.pc) = 244) : Both m g := by
  obtain ⟨r0, r1, r2, r3, r4, r5, r7, sp, pc⟩ := id hm
  cases hf : m.fs
  · exact join (m' := { m with pc := or16 (w16 (or16 0 (w16 (g (at1 m.pc 2))) * 256)) (w16 (g (at1 m.pc 1))), sp := w16 (m.sp - 2) }) (g' := (upd (upd g (ix (w16 (m.sp - 2))) (w8 (w16 (m.pc + 3)))) (ix (w16 (w16 (m.sp - 2) + 1))) (w8 ((w16 (m.pc + 3)).fdiv 256)))) hm hh h0 (pf4_0 m g _ _) (rf4_0 m g) (by simp [*]) (by simp [*]) (by decide) (by decide) (eP (m2s rfl rfl rfl rfl)) (eR (by simp [*]) (m2c (by simp [*]) (by simp [*]) (by simp [*]) (by simp [*]) (by simp [*]))) (by constructor <;> simp [*]) (upd_b8 (upd_b8 hg (by simp [*])) (by simp [*]))
  · exact joinA (m' := { m with pc := w16 (m.pc + 3) }) hm hh h0 (pf4_1 m g _ _) (rf4_1 m g) hg
@[simp] def zf5_0 (m : Mc) : Mc := { m with pc := w16 (m.pc + 1), sp := w16 (m.sp - 2) }
theorem pf5_0 : endsAt [0, 1] (Ly.run ctx3 3000 [(59, true), (0, true), (2, true), (0, true)] (sP m g 245 b1 b2)) = some (T [rg (w16 (m.sp - 2)), bl (ix (w16 (m.sp - 2))), rg (w16 (w16 (m.sp - 2) + 1)), bl (ix (w16 (w16 (m.sp - 2) + 1)))], .int .i64 0, 6, hPm (zf5_0 m) (M2 g (ix (w16 (m.sp - 2))) (w8 (or16 (w16 (w16 m.r7 * 256)) (w16 (128 * cI m.fs + 64 * cI m.fz + 16 * cI m.fx + 4 * cI m.fp + 2 + cI m.fc)))) (ix (w16 (w16 (m.sp - 2) + 1))) (w8 ((or16 (w16 (w16 m.r7 * 256)) (w16 (128 * cI m.fs + 64 * cI m.fz + 16 * cI m.fx + 4 * cI m.fp + 2 + cI m.fc))).fdiv 256)))) := by kernel_rfl
theorem rf5_0 : endsAt [0, 1, 2] (Ly.run ctx3 3000 [(4, true), (30, true), (2, true), (0, true), (0, true), (1, true), (0, true), (0, true), (0, true)] (sR m g 245)) = some (T [inw m.pc && true, inb m.r7 && inb (128 * cI m.fs + 64 * cI m.fz + 16 * cI m.fx + 4 * cI m.fp + 2 + cI m.fc), inb m.r7 && inb (128 * cI m.fs + 64 * cI m.fz + 16 * cI m.fx + 4 * cI m.fp + 2 + cI m.fc), inw m.sp && true, inw (w16 (m.sp + -2)) && true, rg (w16 (w16 (m.sp + -2) + 1)), bl (ix (w16 (w16 (m.sp + -2) + 1))), rg (w16 (m.sp + -2)), bl (ix (w16 (m.sp + -2)))], .int .i64 0, 3, hRm { m with pc := w16 (m.pc + 1), sp := w16 (m.sp + -2) } (M2 g (ix (w16 (w16 (m.sp + -2) + 1))) (w8 ((256 * m.r7 + (128 * cI m.fs + 64 * cI m.fz + 16 * cI m.fx + 4 * cI m.fp + 2 + cI m.fc)).fdiv 256)) (ix (w16 (m.sp + -2))) (w8 (and16 (256 * m.r7 + (128 * cI m.fs + 64 * cI m.fz + 16 * cI m.fx + 4 * cI m.fp + 2 + cI m.fc)) 255)))) := by kernel_rfl
theorem of5 (hm : m.Ok) (hg : ∀ e, B8 (g e)) (hh : m.halt = false) (h0 : g (ix m.pc) = 245) : Both m g := by
  obtain ⟨r0, r1, r2, r3, r4, r5, r7, sp, pc⟩ := id hm
  exact join (m' := (zf5_0 m)) (g' := (upd (upd g (ix (w16 (m.sp - 2))) (w8 (or16 (w16 (w16 m.r7 * 256)) (w16 (128 * cI m.fs + 64 * cI m.fz + 16 * cI m.fx + 4 * cI m.fp + 2 + cI m.fc))))) (ix (w16 (w16 (m.sp - 2) + 1))) (w8 ((or16 (w16 (w16 m.r7 * 256)) (w16 (128 * cI m.fs + 64 * cI m.fz + 16 * cI m.fx + 4 * cI m.fp + 2 + cI m.fc))).fdiv 256)))) hm hh h0 (pf5_0 m g _ _) (rf5_0 m g) (by simp [*]) (by simp [*]) (by decide) (by decide) (eP (m2s rfl rfl rfl rfl)) (eR (by simp [*]) (m2c (by simp [*]) (by simp [*]) (by simp [*]) (by simp [*]) (by simp [*]))) (by constructor <;> simp [*]) (upd_b8 (upd_b8 hg (by simp [*])) (by simp [*]))
@[simp] def zf6_0 (m : Mc) (g : Nat → Int) : Mc := { m with fc := false, fp := par (or8 m.r7 (w8 (or16 0 (w16 (g (at1 m.pc 1)))))), fs := decide (128 ≤ or8 m.r7 (w8 (or16 0 (w16 (g (at1 m.pc 1)))))), fx := false, fz := or8 m.r7 (w8 (or16 0 (w16 (g (at1 m.pc 1))))) == 0, pc := w16 (m.pc + 2), r7 := or8 m.r7 (w8 (or16 0 (w16 (g (at1 m.pc 1))))) }
@[simp] def zf6_1 (m : Mc) (b1 : Int) : Mc := { m with fc := false, fp := par (or8 m.r7 (w8 (or16 0 (w16 b1)))), fs := decide (128 ≤ or8 m.r7 (w8 (or16 0 (w16 b1)))), fx := false, fz := or8 m.r7 (w8 (or16 0 (w16 b1))) == 0, pc := w16 (m.pc + 2), r7 := or8 m.r7 (w8 (or16 0 (w16 b1))) }
theorem pf6_0 : endsAt [0, 1] (Ly.run ctx3 3000 [(21, true), (10, true)] (sP m g 246 b1 b2)) = some (T [m.fc == true, inb m.r7 && inb (w8 (or16 0 (w16 b1)))], .int .i64 0, 5, hPm (zf6_1 m b1) (memL g)) := by kernel_rfl
theorem pf6_1 : endsAt [0, 1] (Ly.run ctx3 3000 [(21, false), (10, true)] (sP m g 246 b1 b2)) = some ([(m.fc == true, false), (inb m.r7 && inb (w8 (or16 0 (w16 b1))), true)], .int .i64 0, 5, hPm (zf6_1 m b1) (memL g)) := by kernel_rfl
theorem rf6_0 : endsAt [0, 1, 2] (Ly.run ctx3 3000 [(3, true), (0, true), (0, true), (1, true), (32, true)] (sR m g 246)) = some (T [inw m.pc && true, rg (w16 (m.pc + 1)), bl (ix (w16 (m.pc + 1))), inw m.pc && true, inb m.r7 && inb (w8 (w16 (g (ix (w16 (m.pc + 1))))))], .int .i64 0, 4, hRm { m with fc := false, fp := par (or8 m.r7 (w8 (w16 (g (ix (w16 (m.pc + 1))))))), fs := decide (128 ≤ or8 m.r7 (w8 (w16 (g (ix (w16 (m.pc + 1))))))), fx := false, fz := or8 m.r7 (w8 (w16 (g (ix (w16 (m.pc + 1)))))) == 0, pc := w16 (m.pc + 2), r7 := or8 m.r7 (w8 (w16 (g (ix (w16 (m.pc + 1)))))) } (memL g)) := by kernel_rfl
theorem of6 (hm : m.Ok) (hg : ∀ e, B8 (g e)) (hh : m.halt = false) (h0 : g (ix m.pc) = 246) : Both m g := by
  obtain ⟨r0, r1, r2, r3, r4, r5, r7, sp, pc⟩ := id hm
  cases hf : m.fc
  · exact joinA (m' := (zf6_0 m g)) hm hh h0 (pf6_1 m g _ _) (rf6_0 m g) hg
  · exact joinA (m' := (zf6_0 m g)) hm hh h0 (pf6_0 m g _ _) (rf6_0 m g) hg
@[simp] def zf7_0 (m : Mc) : Mc := { m with pc := 48, sp := w16 (m.sp - 2) }
theorem pf7_0 : endsAt [0, 1] (Ly.run ctx3 3000 [(44, true), (0, true), (2, true), (0, true)] (sP m g 247 b1 b2)) = some (T [rg (w16 (m.sp - 2)), bl (ix (w16 (m.sp - 2))), rg (w16 (w16 (m.sp - 2) + 1)), bl (ix (w16 (w16 (m.sp - 2) + 1)))], .int .i64 0, 6, hPm (zf7_0 m) (M2 g (ix (w16 (m.sp - 2))) (w8 (w16 (m.pc + 1))) (ix (w16 (w16 (m.sp - 2) + 1))) (w8 ((w16 (m.pc + 1)).fdiv 256)))) := by kernel_rfl
theorem rf7_0 : endsAt [0, 1, 2] (Ly.run ctx3 3000 [(4, true), (24, true), (0, true), (1, true), (0, true), (0, true), (0, true)] (sR m g 247)) = some (T [inw m.pc && true, inw m.sp && true, inw (w16 (m.sp + -2)) && true, rg (w16 (w16 (m.sp + -2) + 1)), bl (ix (w16 (w16 (m.sp + -2) + 1))), rg (w16 (m.sp + -2)), bl (ix (w16 (m.sp + -2)))], .int .i64 0, 3, hRm { m with pc := 48, sp := w16 (m.sp + -2) } (M2 g (ix (w16 (w16 (m.sp + -2) + 1))) (w8 ((w16 (m.pc + 1)).fdiv 256)) (ix (w16 (m.sp + -2))) (w8 (and16 (w16 (m.pc + 1)) 255)))) := by kernel_rfl
theorem of7 (hm : m.Ok) (hg : ∀ e, B8 (g e)) (hh : m.halt = false) (h0 : g (ix m.pc) = 247) : Both m g := by
  obtain ⟨r0, r1, r2, r3, r4, r5, r7, sp, pc⟩ := id hm
  exact join (m' := (zf7_0 m)) (g' := (upd (upd g (ix (w16 (m.sp - 2))) (w8 (w16 (m.pc + 1)))) (ix (w16 (w16 (m.sp - 2) + 1))) (w8 ((w16 (m.pc + 1)).fdiv 256)))) hm hh h0 (pf7_0 m g _ _) (rf7_0 m g) (by simp [*]) (by simp [*]) (by decide) (by decide) (eP (m2s rfl rfl rfl rfl)) (eR (by simp [*]) (m2c (by simp [*]) (by simp [*]) (by simp [*]) (by simp [*]) (by simp [*]))) (by constructor <;> simp [*]) (upd_b8 (upd_b8 hg (by simp [*])) (by simp [*]))
@[simp] def zf8_0 (m : Mc) (g : Nat → Int) : Mc := { m with pc := or16 (w16 (g (ix (w16 (w16 (m.sp + 2) - 2))))) (w16 (w16 (g (ix (w16 (w16 (w16 (m.sp + 2) - 2) + 1)))) * 256)), sp := w16 (m.sp + 2) }
theorem pf8_0 : endsAt [0, 1] (Ly.run ctx3 3000 [(43, true), (0, true), (0, true), (0, true), (0, true)] (sP m g 248 b1 b2)) = some (T [m.fs == true, rg (w16 (w16 (m.sp + 2) - 2)), bl (ix (w16 (w16 (m.sp + 2) - 2))), rg (w16 (w16 (w16 (m.sp + 2) - 2) + 1)), bl (ix (w16 (w16 (w16 (m.sp + 2) - 2) + 1)))], .int .i64 0, 6, hPm (zf8_0 m g) (memL g)) := by kernel_rfl
theorem pf8_1 : endsAt [0, 1] (Ly.run ctx3 3000 [(43, false)] (sP m g 248 b1 b2)) = some ([(m.fs == true, false)], .int .i64 0, 6, hPm { m with pc := w16 (m.pc + 1) } (memL g)) := by kernel_rfl
theorem rf8_0 : endsAt [0, 1, 2] (Ly.run ctx3 3000 [(4, true), (53, true), (0, true), (0, true), (0, true), (0, true), (0, true), (0, true), (0, true)] (sR m g 248)) = some (T [inw m.pc && true, m.fs, inw m.sp && true, rg (w16 (m.sp + 1)), bl (ix (w16 (m.sp + 1))), rg (m.sp), bl (ix m.sp), inb (g (ix (w16 (m.sp + 1)))) && inb (g (ix m.sp)), inw m.sp && true], .int .i64 0, 4, hRm { m with pc := 256 * g (ix (w16 (m.sp + 1))) + g (ix m.sp), sp := w16 (m.sp + 2) } (memL g)) := by kernel_rfl
theorem rf8_1 : endsAt [0, 1, 2] (Ly.run ctx3 3000 [(4, true), (53, false)] (sR m g 248)) = some ([(inw m.pc && true, true), (m.fs, false)], .int .i64 0, 4, hRm { m with pc := w16 (m.pc + 1) } (memL g)) := by kernel_rfl
theorem of8 (hm : m.Ok) (hg : ∀ e, B8 (g e)) (hh : m.halt = false) (h0 : g (ix m.pc) = 248) : Both m g := by
  obtain ⟨r0, r1, r2, r3, r4, r5, r7, sp, pc⟩ := id hm
  cases hf : m.fs
  · exact joinA (m' := { m with pc := w16 (m.pc + 1) }) hm hh h0 (pf8_1 m g _ _) (rf8_1 m g) hg
  · exact joinA (m' := (zf8_0 m g)) hm hh h0 (pf8_0 m g _ _) (rf8_0 m g) hg
@[simp] def zf9_0 (m : Mc) : Mc := { m with pc := w16 (m.pc + 1), sp := or16 (w16 (w16 m.r4 * 256)) (w16 m.r5) }
theorem pf9_0 : endsAt [0, 1] (Ly.run ctx3 3000 [] (sP m g 249 b1 b2)) = some (T [], .int .i64 0, 5, hPm (zf9_0 m) (memL g)) := by kernel_rfl
theorem rf9_0 : endsAt [0, 1, 2] (Ly.run ctx3 3000 [(4, true), (70, true)] (sR m g 249)) = some (T [inw m.pc && true, inb m.r4 && inb m.r5], .int .i64 0, 3, hRm { m with pc := w16 (m.pc + 1), sp := 256 * m.r4 + m.r5 } (memL g)) := by kernel_rfl
theorem of9 (hm : m.Ok) (hg : ∀ e, B8 (g e)) (hh : m.halt = false) (h0 : g (ix m.pc) = 249) : Both m g := by
  obtain ⟨r0, r1, r2, r3, r4, r5, r7, sp, pc⟩ := id hm
  exact joinA (m' := (zf9_0 m)) hm hh h0 (pf9_0 m g _ _) (rf9_0 m g) hg
theorem pfa_0 : endsAt [0, 1] (Ly.run ctx3 3000 [(51, true)] (sP m g 250 b1 b2)) = some (T [m.fs == true], .int .i64 0, 6, hPm { m with pc := or16 (w16 (or16 0 (w16 b2) * 256)) (w16 b1) } (memL g)) := by kernel_rfl
theorem pfa_1 : endsAt [0, 1] (Ly.run ctx3 3000 [(51, false)] (sP m g 250 b1 b2)) = some ([(m.fs == true, false)], .int .i64 0, 6, hPm { m with pc := w16 (m.pc + 3) } (memL g)) := by kernel_rfl
theorem rfa_0 : endsAt [0, 1, 2] (Ly.run ctx3 3000 [(3, true), (0, true), (0, true), (1, true), (0, true), (0, true), (0, true), (63, true)] (sR m g 250)) = some (T [inw m.pc && true, rg (w16 (m.pc + 1)), bl (ix (w16 (m.pc + 1))), inw m.pc && true, rg (w16 (m.pc + 2)), bl (ix (w16 (m.pc + 2))), inw m.pc && true, m.fs], .int .i64 0, 4, hRm { m with pc := w16 (w16 (g (ix (w16 (m.pc + 1)))) + w16 (w16 (g (ix (w16 (m.pc + 2)))) * 256)) } (memL g)) := by kernel_rfl
theorem rfa_1 : endsAt [0, 1, 2] (Ly.run ctx3 3000 [(3, true), (0, true), (0, true), (1, true), (0, true), (0, true), (0, true), (63, false)] (sR m g 250)) = some ([(inw m.pc && true, true), (rg (w16 (m.pc + 1)), true), (bl (ix (w16 (m.pc + 1))), true), (inw m.pc && true, true), (rg (w16 (m.pc + 2)), true), (bl (ix (w16 (m.pc + 2))), true), (inw m.pc && true, true), (m.fs, false)], .int .i64 0, 4, hRm { m with pc := w16 (m.pc + 3) } (memL g)) := by kernel_rfl
theorem ofa (hm : m.Ok) (hg : ∀ e, B8 (g e)) (hh : m.halt = false) (h0 : g (ix m.pc) = 250) : Both m g := by
  obtain ⟨r0, r1, r2, r3, r4, r5, r7, sp, pc⟩ := id hm
  cases hf : m.fs
  · exact joinA (m' := { m with pc := w16 (m.pc + 3) }) hm hh h0 (pfa_1 m g _ _) (rfa_1 m g) hg
  · exact joinA (m' := { m with pc := or16 (w16 (or16 0 (w16 (g (at1 m.pc 2))) * 256)) (w16 (g (at1 m.pc 1))) }) hm hh h0 (pfa_0 m g _ _) (rfa_0 m g) hg
@[simp] def zfb_0 (m : Mc) : Mc := { m with ie := true, pc := w16 (m.pc + 1) }
theorem pfb_0 : endsAt [0, 1] (Ly.run ctx3 3000 [] (sP m g 251 b1 b2)) = some (T [], .int .i64 0, 5, hPm (zfb_0 m) (memL g)) := by kernel_rfl
theorem rfb_0 : endsAt [0, 1, 2] (Ly.run ctx3 3000 [(4, true), (70, true)] (sR m g 251)) = some (T [inw m.pc && true, inb m.r4 && inb m.r5], .int .i64 0, 3, hRm (zfb_0 m) (memL g)) := by kernel_rfl
theorem ofb (hm : m.Ok) (hg : ∀ e, B8 (g e)) (hh : m.halt = false) (h0 : g (ix m.pc) = 251) : Both m g := by
  obtain ⟨r0, r1, r2, r3, r4, r5, r7, sp, pc⟩ := id hm
  exact joinA (m' := (zfb_0 m)) hm hh h0 (pfb_0 m g _ _) (rfb_0 m g) hg
theorem pfc_0 : endsAt [0, 1] (Ly.run ctx3 3000 [(53, true), (3, true), (0, true), (2, true), (0, true)] (sP m g 252 b1 b2)) = some (T [m.fs == true, rg (w16 (m.sp - 2)), bl (ix (w16 (m.sp - 2))), rg (w16 (w16 (m.sp - 2) + 1)), bl (ix (w16 (w16 (m.sp - 2) + 1)))], .int .i64 0, 7, hPm { m with pc := or16 (w16 (or16 0 (w16 b2) * 256)) (w16 b1), sp := w16 (m.sp - 2) } (M2 g (ix (w16 (m.sp - 2))) (w8 (w16 (m.pc + 3))) (ix (w16 (w16 (m.sp - 2) + 1))) (w8 ((w16 (m.pc + 3)).fdiv 256)))) := by kernel_rfl
theorem pfc_1 : endsAt [0, 1] (Ly.run ctx3 3000 [(53, false)] (sP m g 252 b1 b2)) = some ([(m.fs == true, false)], .int .i64 0, 6, hPm { m with pc := w16 (m.pc + 3) } (memL g)) := by kernel_rfl
theorem rfc_0 : endsAt [0, 1, 2] (Ly.run ctx3 3000 [(3, true), (0, true), (0, true), (1, true), (0, true), (0, true), (0, true), (73, true), (0, true), (0, true), (1, true), (0, true), (0, true), (0, true)] (sR m g 252)) = some (T [inw m.pc && true, rg (w16 (m.pc + 1)), bl (ix (w16 (m.pc + 1))), inw m.pc && true, rg (w16 (m.pc + 2)), bl (ix (w16 (m.pc + 2))), inw m.pc && true, m.fs, inw m.sp && true, inw (w16 (m.sp + -2)) && true, rg (w16 (w16 (m.sp + -2) + 1)), bl (ix (w16 (w16 (m.sp + -2) + 1))), rg (w16 (m.sp + -2)), bl (ix (w16 (m.sp + -2)))], .int .i64 0, 4, hRm { m with pc := w16 (w16 (g (ix (w16 (m.pc + 1)))) + w16 (w16 (g (ix (w16 (m.pc + 2)))) * 256)), sp := w16 (m.sp + -2) } (M2 g (ix (w16 (w16 (m.sp + -2) + 1))) (w8 ((w16 (m.pc + 3)).fdiv 256)) (ix (w16 (m.sp + -2))) (w8 (and16 (w16 (m.pc + 3)) 255)))) := by kernel_rfl
theorem rfc_1 : endsAt [0, 1, 2] (Ly.run ctx3 3000 [(3, true), (0, true), (0, true), (1, true), (0, true), (0, true), (0, true), (73, false)] (sR m g 252)) = some ([(inw m.pc && true, true), (rg (w16 (m.pc + 1)), true), (bl (ix (w16 (m.pc + 1))), true), (inw m.pc && true, true), (rg (w16 (m.pc + 2)), true), (bl (ix (w16 (m.pc + 2))), true), (inw m.pc && true, true), (m.fs, false)], .int .i64 0, 4, hRm { m with pc := w16 (m.pc + 3) } (memL g)) := by kernel_rfl
theorem ofc (hm : m.Ok) (hg : ∀ e, B8 (g e)) (hh : m.halt = false) (h0 : g (ix m.pc) = 252) : Both m g := by
  obtain ⟨r0, r1, r2, r3, r4, r5, r7, sp, pc⟩ := id hm
  cases hf : m.fs
  · exact joinA (m' := { m with pc := w16 (m.pc + 3) }) hm hh h0 (pfc_1 m g _ _) (rfc_1 m g) hg
  · exact join (m' := { m with pc := or16 (w16 (or16 0 (w16 (g (at1 m.pc 2))) * 256)) (w16 (g (at1 m.pc 1))), sp := w16 (m.sp - 2) }) (g' := (upd (upd g (ix (w16 (m.sp - 2))) (w8 (w16 (m.pc + 3)))) (ix (w16 (w16 (m.sp - 2) + 1))) (w8 ((w16 (m.pc + 3)).fdiv 256)))) hm hh h0 (pfc_0 m g _ _) (rfc_0 m g) (by simp [*]) (by simp [*]) (by decide) (by decide) (eP (m2s rfl rfl rfl rfl)) (eR (by simp [*]) (m2c (by simp [*]) (by simp [*]) (by simp [*]) (by simp [*]) (by simp [*]))) (by constructor <;> simp [*]) (upd_b8 (upd_b8 hg (by simp [*])) (by simp [*]))
theorem pfd_0 : endsAt [0, 1] (Ly.run ctx3 3000 [] (sP m g 253 b1 b2)) = some (T [], .int .i64 8, 5, hPm m (memL g)) := by kernel_rfl
theorem rfd_0 : endsAt [0, 1, 2] (Ly.run ctx3 3000 [] (sR m g 253)) = some (T [], .int .i64 8, 3, hRm m (memL g)) := by kernel_rfl
theorem ofd (hm : m.Ok) (hg : ∀ e, B8 (g e)) (hh : m.halt = false) (h0 : g (ix m.pc) = 253) : Both m g := by
  obtain ⟨r0, r1, r2, r3, r4, r5, r7, sp, pc⟩ := id hm
  exact join (m' := m) (g' := g) hm hh h0 (pfd_0 m g _ _) (rfd_0 m g) (by simp [*]) (by simp [*]) (by decide) (by decide) (eP (.inl rfl)) (eR rfl (.inl rfl)) (by constructor <;> simp [*]) hg
@[simp] def zfe_0 (m : Mc) (g : Nat → Int) : Mc := { m with fc := decide (m.r7 - w8 (or16 0 (w16 (g (at1 m.pc 1)))) - 0 < 0), fp := par ((m.r7 - w8 (or16 0 (w16 (g (at1 m.pc 1)))) - 0) % 256), fs := decide (128 ≤ (m.r7 - w8 (or16 0 (w16 (g (at1 m.pc 1)))) - 0) % 256), fx := decide (15 < m.r7 % 16 + 15 - w8 (or16 0 (w16 (g (at1 m.pc 1)))) % 16 + 1), fz := (m.r7 - w8 (or16 0 (w16 (g (at1 m.pc 1)))) - 0) % 256 == 0, pc := w16 (m.pc + 2) }
@[simp] def zfe_1 (m : Mc) (b1 : Int) : Mc := { m with fc := decide (m.r7 - w8 (or16 0 (w16 b1)) - 0 < 0), fp := par ((m.r7 - w8 (or16 0 (w16 b1)) - 0) % 256), fs := decide (128 ≤ (m.r7 - w8 (or16 0 (w16 b1)) - 0) % 256), fx := decide (15 < m.r7 % 16 + 15 - w8 (or16 0 (w16 b1)) % 16 + 1), fz := (m.r7 - w8 (or16 0 (w16 b1)) - 0) % 256 == 0, pc := w16 (m.pc + 2) }
theorem pfe_0 : endsAt [0, 1] (Ly.run ctx3 3000 [(21, true), (11, true)] (sP m g 254 b1 b2)) = some (T [m.fc == true, inb m.r7 && inb (w8 (or16 0 (w16 b1)))], .int .i64 0, 5, hPm (zfe_1 m b1) (memL g)) := by kernel_rfl
theorem pfe_1 : endsAt [0, 1] (Ly.run ctx3 3000 [(21, false), (11, true)] (sP m g 254 b1 b2)) = some ([(m.fc == true, false), (inb m.r7 && inb (w8 (or16 0 (w16 b1))), true)], .int .i64 0, 5, hPm (zfe_1 m b1) (memL g)) := by kernel_rfl
theorem rfe_0 : endsAt [0, 1, 2] (Ly.run ctx3 3000 [(3, true), (0, true), (0, true), (1, true), (35, true)] (sR m g 254)) = some (T [inw m.pc && true, rg (w16 (m.pc + 1)), bl (ix (w16 (m.pc + 1))), inw m.pc && true, inb m.r7 && inb (w8 (w16 (g (ix (w16 (m.pc + 1))))))], .int .i64 0, 4, hRm { m with fc := decide (m.r7 - w8 (w16 (g (ix (w16 (m.pc + 1))))) - 0 < 0), fp := par ((m.r7 - w8 (w16 (g (ix (w16 (m.pc + 1))))) - 0) % 256), fs := decide (128 ≤ (m.r7 - w8 (w16 (g (ix (w16 (m.pc + 1))))) - 0) % 256), fx := decide (15 < m.r7 % 16 + 15 - w8 (w16 (g (ix (w16 (m.pc + 1))))) % 16 + 1), fz := (m.r7 - w8 (w16 (g (ix (w16 (m.pc + 1))))) - 0) % 256 == 0, pc := w16 (m.pc + 2) } (memL g)) := by kernel_rfl
theorem ofe (hm : m.Ok) (hg : ∀ e, B8 (g e)) (hh : m.halt = false) (h0 : g (ix m.pc) = 254) : Both m g := by
  obtain ⟨r0, r1, r2, r3, r4, r5, r7, sp, pc⟩ := id hm
  cases hf : m.fc
  · exact joinA (m' := (zfe_0 m g)) hm hh h0 (pfe_1 m g _ _) (rfe_0 m g) hg
  · exact joinA (m' := (zfe_0 m g)) hm hh h0 (pfe_0 m g _ _) (rfe_0 m g) hg
@[simp] def zff_0 (m : Mc) : Mc := { m with pc := 56, sp := w16 (m.sp - 2) }
theorem pff_0 : endsAt [0, 1] (Ly.run ctx3 3000 [(44, true), (0, true), (2, true), (0, true)] (sP m g 255 b1 b2)) = some (T [rg (w16 (m.sp - 2)), bl (ix (w16 (m.sp - 2))), rg (w16 (w16 (m.sp - 2) + 1)), bl (ix (w16 (w16 (m.sp - 2) + 1)))], .int .i64 0, 6, hPm (zff_0 m) (M2 g (ix (w16 (m.sp - 2))) (w8 (w16 (m.pc + 1))) (ix (w16 (w16 (m.sp - 2) + 1))) (w8 ((w16 (m.pc + 1)).fdiv 256)))) := by kernel_rfl
theorem rff_0 : endsAt [0, 1, 2] (Ly.run ctx3 3000 [(4, true), (24, true), (0, true), (1, true), (0, true), (0, true), (0, true)] (sR m g 255)) = some (T [inw m.pc && true, inw m.sp && true, inw (w16 (m.sp + -2)) && true, rg (w16 (w16 (m.sp + -2) + 1)), bl (ix (w16 (w16 (m.sp + -2) + 1))), rg (w16 (m.sp + -2)), bl (ix (w16 (m.sp + -2)))], .int .i64 0, 3, hRm { m with pc := 56, sp := w16 (m.sp + -2) } (M2 g (ix (w16 (w16 (m.sp + -2) + 1))) (w8 ((w16 (m.pc + 1)).fdiv 256)) (ix (w16 (m.sp + -2))) (w8 (and16 (w16 (m.pc + 1)) 255)))) := by kernel_rfl
theorem off (hm : m.Ok) (hg : ∀ e, B8 (g e)) (hh : m.halt = false) (h0 : g (ix m.pc) = 255) : Both m g := by
  obtain ⟨r0, r1, r2, r3, r4, r5, r7, sp, pc⟩ := id hm
  exact join (m' := (zff_0 m)) (g' := (upd (upd g (ix (w16 (m.sp - 2))) (w8 (w16 (m.pc + 1)))) (ix (w16 (w16 (m.sp - 2) + 1))) (w8 ((w16 (m.pc + 1)).fdiv 256)))) hm hh h0 (pff_0 m g _ _) (rff_0 m g) (by simp [*]) (by simp [*]) (by decide) (by decide) (eP (m2s rfl rfl rfl rfl)) (eR (by simp [*]) (m2c (by simp [*]) (by simp [*]) (by simp [*]) (by simp [*]) (by simp [*]))) (by constructor <;> simp [*]) (upd_b8 (upd_b8 hg (by simp [*])) (by simp [*]))
theorem blk15 (m : Mc) (g : Nat → Int) (hm : m.Ok) (hg : ∀ e, B8 (g e)) (hh : m.halt = false) (h1 : 240 ≤ g (ix m.pc)) (h2 : g (ix m.pc) < 256) : Both m g := by
  have h : g (ix m.pc) = 240 ∨ g (ix m.pc) = 241 ∨ g (ix m.pc) = 242 ∨ g (ix m.pc) = 243 ∨ g (ix m.pc) = 244 ∨ g (ix m.pc) = 245 ∨ g (ix m.pc) = 246 ∨ g (ix m.pc) = 247 ∨ g (ix m.pc) = 248 ∨ g (ix m.pc) = 249 ∨ g (ix m.pc) = 250 ∨ g (ix m.pc) = 251 ∨ g (ix m.pc) = 252 ∨ g (ix m.pc) = 253 ∨ g (ix m.pc) = 254 ∨ g (ix m.pc) = 255 := by omega
  rcases h with h | h | h | h | h | h | h | h | h | h | h | h | h | h | h | h
  · exact of0 m g hm hg hh h
  · exact of1 m g hm hg hh h
  · exact of2 m g hm hg hh h
  · exact of3 m g hm hg hh h
  · exact of4 m g hm hg hh h
  · exact of5 m g hm hg hh h
  · exact of6 m g hm hg hh h
  · exact of7 m g hm hg hh h
  · exact of8 m g hm hg hh h
  · exact of9 m g hm hg hh h
  · exact ofa m g hm hg hh h
  · exact ofb m g hm hg hh h
  · exact ofc m g hm hg hh h
  · exact ofd m g hm hg hh h
  · exact ofe m g hm hg hh h
  · exact off m g hm hg hh h
end Go.Proofs.Ytpggoincnebfnaa
namespace Go.Proofs.Ytpggoincnebfnaa
open Go Go.Ly Go.RowKit
variable (m : Mc) (g : Nat → Int) (b1 b2 : Int)
theorem both (m : Mc) (g : Nat → Int) (hm : m.Ok) (hg : ∀ e, B8 (g e)) (hh : m.halt = false) (hi : g (ix m.pc) ≠ 219) (ho : g (ix m.pc) ≠ 211) : Both m g := by
  have hb := hg (ix m.pc)
  unfold B8 at hb
  rcases Int.lt_or_le (g (ix m.pc)) 16 with h0 | h0
  · exact blk0 m g hm hg hh (by omega) h0
  rcases Int.lt_or_le (g (ix m.pc)) 32 with h1 | h1
  · exact blk1 m g hm hg hh (by omega) h1
  rcases Int.lt_or_le (g (ix m.pc)) 48 with h2 | h2
  · exact blk2 m g hm hg hh (by omega) h2
  rcases Int.lt_or_le (g (ix m.pc)) 64 with h3 | h3
  · exact blk3 m g hm hg hh (by omega) h3
  rcases Int.lt_or_le (g (ix m.pc)) 80 with h4 | h4
  · exact blk4 m g hm hg hh (by omega) h4
  rcases Int.lt_or_le (g (ix m.pc)) 96 with h5 | h5
  · exact blk5 m g hm hg hh (by omega) h5
  rcases Int.lt_or_le (g (ix m.pc)) 112 with h6 | h6
  · exact blk6 m g hm hg hh (by omega) h6
  rcases Int.lt_or_le (g (ix m.pc)) 128 with h7 | h7
  · exact blk7 m g hm hg hh (by omega) h7
  rcases Int.lt_or_le (g (ix m.pc)) 144 with h8 | h8
  · exact blk8 m g hm hg hh (by omega) h8
  rcases Int.lt_or_le (g (ix m.pc)) 160 with h9 | h9
  · exact blk9 m g hm hg hh (by omega) h9
  rcases Int.lt_or_le (g (ix m.pc)) 176 with h10 | h10
  · exact blk10 m g hm hg hh (by omega) h10
  rcases Int.lt_or_le (g (ix m.pc)) 192 with h11 | h11
  · exact blk11 m g hm hg hh (by omega) h11
  rcases Int.lt_or_le (g (ix m.pc)) 208 with h12 | h12
  · exact blk12 m g hm hg hh (by omega) h12
  rcases Int.lt_or_le (g (ix m.pc)) 224 with h13 | h13
  · exact blk13 m g hm hg hh (by omega) h13 hi ho
  rcases Int.lt_or_le (g (ix m.pc)) 240 with h14 | h14
  · exact blk14 m g hm hg hh (by omega) h14
  exact blk15 m g hm hg hh h14 (by omega)
end Go.Proofs.Ytpggoincnebfnaa
namespace Go.Proofs.Ytpggoincnebfnaa
open Go Go.Ly Go.RowKit
def StepsTo (s s' : Js) (k : Int) : Prop := (∀ H p O V, PM H p s O V → H.lock = 0 → Ly.Clean H → H.next + 64 < big → LCalls Try.prog 13 [ptr p] H (fun u H' => u = .int .i64 k ∧ PN H p s' O V H')) ∧ (∀ H p O V, RM H p s O V → H.lock = 0 → Ly.Clean H → H.next + 64 < big → LCalls Try.prog 14 [ptr p] H (fun u H' => u = .int .i64 k ∧ RN H p s' O V H'))
theorem P_ends {h : List (Option LO)} {m : Mc} {g : Nat → Int} {b0 k : Int} {I : List Nat} {pP : Path} {tP' : List (Bool × Bool)} {nP : Nat} {osP osP' : List (Option LO)} (hm : m.Ok) (hh : m.halt = false) (h0 : g (ix m.pc) = b0) (hj : jP h m g)
    (hp : endsAt I (Ly.run ctx3 3000 pP (sPi h b0 (g (at1 m.pc 1)) (g (at1 m.pc 2)))) = some (tP', .int .i64 k, nP, osP)) (h1 : trusted tP') (h3 : nP ≤ 64) (hI : (nodupB I && I.all (fun b => Nat.blt b 2147483000)) = true) (h5 : Each2 OLeq osP osP') : Ly.Ends Try.prog 13 [ptr 0] h I (.int .i64 k) 64 osP' := by
  have e1 := MWp.ends ctx3_ok 3000 pP hp h1
  have h0' : g (0 + m.pc.toNat * 1) = b0 := h0
  have e2 : Ly.Ends Try.prog 13 [ptr 0] h I (.int .i64 k) nP osP := by
    refine LCalls_of ctx3_ok gP13 (by kernel_rfl) (MWp.halted (haltAt_ok ctx3_ok 27) [0, 53] 300 pathP hj (trP hm hh) ?_)
    rw [h0']; exact e1
  exact (e2.eqv hI h5).grow h3 (by unfold big; omega)
theorem R_ends {h : List (Option LO)} {m : Mc} {g : Nat → Int} {b0 k : Int} {I : List Nat} {pP : Path} {tP' : List (Bool × Bool)} {nP : Nat} {osP osP' : List (Option LO)} (hm : m.Ok) (hh : m.halt = false) (h0 : g (ix m.pc) = b0) (hj : jR h m g)
    (hp : endsAt I (Ly.run ctx3 3000 pP (sRi h b0)) = some (tP', .int .i64 k, nP, osP)) (h1 : trusted tP') (h3 : nP ≤ 64) (hI : (nodupB I && I.all (fun b => Nat.blt b 2147483000)) = true) (h5 : Each2 OLeq osP osP') : Ly.Ends Try.prog 14 [ptr 0] h I (.int .i64 k) 64 osP' := by
  have e1 := MWp.ends ctx3_ok 3000 pP hp h1
  have h0' : g (0 + m.pc.toNat * 1) = b0 := h0
  have e2 : Ly.Ends Try.prog 14 [ptr 0] h I (.int .i64 k) nP osP := by
    refine LCalls_of ctx3_ok gP14 (by kernel_rfl) (MWp.halted (haltAt_ok ctx3_ok 32) [0, 3, 20] 300 pathR hj (trR hm hh) ?_)
    rw [h0']; exact e1
  exact (e2.eqv hI h5).grow h3 (by unfold big; omega)
theorem steps_tok {s : Js} {m' : Mc} {g' : Nat → Int} {k : Int} (h1 : Ly.Ends Try.prog 13 [ptr 0] (hP s.m s.g) [0, 1] (.int .i64 k) 64 (hP m' g')) (h2 : Ly.Ends Try.prog 14 [ptr 0] (hR s.m s.g) [0, 1, 2] (.int .i64 k) 64 (hR m' g')) :
    StepsTo s { s with m := m', g := g' } k :=
  ⟨fun H p O V h hl hc hb => P_tok h hl hc hb h1, fun H p O V h hl hc hb => R_tok h hl hc hb h2⟩
theorem haltP (m : Mc) (g : Nat → Int) : endsAt [0, 1] (Ly.run ctx3 100 [(1, true)] (Ly.start Try.f13 [ptr 0] (mkH (hP m g)))) = some ([(m.halt, true)], .int .i64 13, 2, hP m g) := by kernel_rfl
theorem haltR (m : Mc) (g : Nat → Int) : endsAt [0, 1, 2] (Ly.run ctx3 100 [(0, true)] (Ly.start Try.f14 [ptr 0] (mkH (hR m g)))) = some ([(m.halt, true)], .int .i64 13, 3, hR m g) := by kernel_rfl
theorem step_halt {s : Js} (hh : s.m.halt = true) : StepsTo s s 13 := by
  have e1 : Ly.Ends Try.prog 13 [ptr 0] (hP s.m s.g) [0, 1] (.int .i64 13) 2 (hP s.m s.g) := Ends.of_run ctx3_ok 100 _ gP13 (by kernel_rfl) (haltP s.m s.g) (by simp [hh])
  have e2 : Ly.Ends Try.prog 14 [ptr 0] (hR s.m s.g) [0, 1, 2] (.int .i64 13) 3 (hR s.m s.g) := Ends.of_run ctx3_ok 100 _ gP14 (by kernel_rfl) (haltR s.m s.g) (by simp [hh])
  exact steps_tok (e1.grow (by omega) (by unfold big; omega)) (e2.grow (by omega) (by unfold big; omega))
theorem fullT_of {q : Nat} (h0 : 0 < q) (h1 : q < 4294967296) : fullT q = true := by
  have e1 : Nat.ble (0 + q) q = true := by rw [Nat.ble_eq]; omega
  have e2 : Nat.beq q q = true := Nat.beq_refl q
  have e3 : Nat.ble 1 q = true := by rw [Nat.ble_eq]; omega
  have e4 : Nat.ble (q + 1) 4294967296 = true := by rw [Nat.ble_eq]; omega
  unfold fullT
  rw [e1, e2, e3, e4]; rfl
theorem inS_end {s : Js} (hj : s.j = s.N) : inS s = { s with m := inM s.m 0 } := by
  have : Nat.blt s.j s.N = false := by
    cases h : Nat.blt s.j s.N with
    | false => rfl
    | true => rw [Nat.blt_eq] at h; omega
  unfold inS; rw [this]; rfl
theorem step_in {s : Js} (hs : s.Ok) (hh : s.m.halt = false) (h0 : s.g (ix s.m.pc) = 219) : StepsTo s (inS s) 0 := by
  have hm := hs.m
  obtain ⟨r0, r1, r2, r3, r4, r5, r7, sp, pc⟩ := id hm
  refine ⟨fun H p O V h hl hc hb => ?_, fun H p O V h hl hc hb => ?_⟩
  · obtain ⟨b, rg, iv, ov, VI, VO, h, rfl, rfl⟩ := h
    rcases h.inn with ⟨hj, rfl, rfl | ⟨a, c, rfl⟩⟩ | ⟨hj, x, rfl, rfl, hx⟩
    · have e : inS s = { s with m := inM s.m 0 } := inS_end hj
      rw [e]
      exact P_in0 h hl hc hb (P_ends hm hh h0 (jP_i0 _ _) (pi0 _ _ _ _) trivial (by decide) (by kernel_rfl) ⟨.inl rfl, .inl rfl, trivial⟩)
    · have e : inS s = { s with m := inM s.m 0 } := inS_end hj
      rw [e]
      refine LCalls.ltn fun hlt hsm => ?_
      have hget := fun i => Heap.get_put (H := H) (o := .cells (cellsPb b rg s.m (empV p) ov) 60) (Nat.lt_trans (hlt _ _ h.cells) hsm) i
      have hpb : p ≠ b := by intro e; have := h.nd; simp [e] at this
      have hw : WeakH H (H.put p (.cells (cellsPb b rg s.m (empV p) ov) 60)) := by
        refine ⟨rfl, rfl, fun i o hi => ?_⟩
        rw [hget] at hi
        split at hi
        · rename_i e; subst e
          simp only [Option.some.injEq] at hi; subst hi
          refine ⟨_, h.cells, OW.cells ?_⟩
          simp only [cellsPb, VWL]
          exact ⟨_, _, VW.refl _, ⟨_, _, VW.refl _, ⟨_, _, VW.refl _, ⟨_, _, VW.refl _, ⟨_, _, VW.refl _, ⟨_, _, VW.refl _, ⟨_, _, VW.refl _, ⟨_, _, VW.refl _, ⟨_, _, VW.refl _, ⟨_, _, VW.refl _, ⟨_, _, VW.refl _, ⟨_, _, VW.refl _, ⟨_, _, VW.refl _, ⟨_, _, VW.refl _, ⟨_, _, VW.refl _, ⟨_, _, VW.refl _, ⟨_, _, VW.refl _, ⟨_, _, VW.empty _ _ _, ⟨_, _, VW.refl _, ⟨_, _, VW.refl _, rfl, rfl⟩, rfl⟩, rfl⟩, rfl⟩, rfl⟩, rfl⟩, rfl⟩, rfl⟩, rfl⟩, rfl⟩, rfl⟩, rfl⟩, rfl⟩, rfl⟩, rfl⟩, rfl⟩, rfl⟩, rfl⟩, rfl⟩, rfl⟩
        · exact ⟨o, hi, OW.refl o⟩
      refine LCalls.weak hw ?_
      have hK : Pm (H.put p (.cells (cellsPb b rg s.m (empV p) ov) 60)) p b rg s (empV p) ov [] VO := by
        refine ⟨by rw [hget, if_pos rfl], by rw [hget, if_neg hpb.symm]; exact h.mem, h.regs, .inl ⟨hj, rfl, .inr ⟨_, _, rfl⟩⟩, h.out.same fun i hi => ?_, h.nd⟩
        rw [hget, if_neg]
        intro e
        exact (List.nodup_append.1 h.nd).2.2 p (by simp) i (by simp [hi]) e.symm
      have hcK : Ly.Clean (H.put p (.cells (cellsPb b rg s.m (empV p) ov) 60)) := by
        intro i o hi
        rw [hget] at hi
        split at hi
        · simp only [Option.some.injEq] at hi; subst hi
          show noTokL _ = true
          rw [noP, h.out.noTok]; rfl
        · exact hc i o hi
      refine (P_inE hK hl hcK hb (P_ends hm hh h0 (jP_iE _ _) (piE _ _ _ _) trivial (by decide) (by kernel_rfl) ⟨.inl rfl, .inl rfl, trivial⟩)).mono ?_
      rintro u H' ⟨rfl, ⟨n1, n2, n3, n4, n5⟩, hN⟩
      refine ⟨rfl, ⟨n1, n2, n3, n4, fun i hi hO => ?_⟩, hN⟩
      rw [n5 i hi hO, hget, if_neg]
      intro e; exact hO (by simp [e])
    · obtain ⟨n, hn⟩ : ∃ n, s.N - s.j = n + 1 := ⟨s.N - s.j - 1, by omega⟩
      have e : inS s = { s with m := inM s.m (s.f s.j), j := s.j + 1 } := by
        unfold inS
        have : Nat.blt s.j s.N = true := by rw [Nat.blt_eq]; exact hj
        rw [this]; rfl
      rw [e]
      rw [hn] at h
      have hlt : Nat.blt s.j s.N = true := by rw [Nat.blt_eq]; exact hj
      exact P_inR hn h hx hl hc hb (P_ends hm hh h0 (jP_iR _ _ _ _ _ _) (piR _ _ _ _ _ _ _ _) (by simp [tI, hlt]; omega) (by decide) (by kernel_rfl) ⟨.inl rfl, .inl rfl, .inl rfl, trivial⟩)
  · obtain ⟨b, rg, iv, ov, VI, VO, h, rfl, rfl⟩ := h
    have htr : trusted (tRI s.m) := by simp [tRI, *]
    rcases h.inn with ⟨hj, rfl, rfl | ⟨a, c, rfl⟩⟩ | ⟨hj, x, rfl, rfl, hx⟩
    · have e : inS s = { s with m := inM s.m 0 } := inS_end hj
      rw [e]
      exact R_in0 h hl hc hb (R_ends hm hh h0 (jR_i0 _ _) (ri0 _ _) htr (by decide) (by kernel_rfl) ⟨.inl rfl, .inl rfl, .inl rfl, trivial⟩)
    · have e : inS s = { s with m := inM s.m 0 } := inS_end hj
      rw [e]
      refine LCalls.ltn fun hlt hsm => ?_
      have hget := fun i => Heap.get_put (H := H) (o := .cells (cellsRb b rg s.m (empV p) ov) 56) (Nat.lt_trans (hlt _ _ h.cells) hsm) i
      have hpb : p ≠ b := by intro e; have := h.nd; simp [e] at this
      have hpr : p ≠ rg := by intro e; have := h.nd; simp [e] at this
      have hw : WeakH H (H.put p (.cells (cellsRb b rg s.m (empV p) ov) 56)) := by
        refine ⟨rfl, rfl, fun i o hi => ?_⟩
        rw [hget] at hi
        split at hi
        · rename_i e; subst e
          simp only [Option.some.injEq] at hi; subst hi
          refine ⟨_, h.cells, OW.cells ?_⟩
          simp only [cellsRb, VWL]
          exact ⟨_, _, VW.refl _, ⟨_, _, VW.refl _, ⟨_, _, VW.refl _, ⟨_, _, VW.refl _, ⟨_, _, VW.refl _, ⟨_, _, VW.refl _, ⟨_, _, VW.refl _, ⟨_, _, VW.refl _, ⟨_, _, VW.refl _, ⟨_, _, VW.refl _, ⟨_, _, VW.empty _ _ _, ⟨_, _, VW.refl _, ⟨_, _, VW.refl _, rfl, rfl⟩, rfl⟩, rfl⟩, rfl⟩, rfl⟩, rfl⟩, rfl⟩, rfl⟩, rfl⟩, rfl⟩, rfl⟩, rfl⟩, rfl⟩
        · exact ⟨o, hi, OW.refl o⟩
      refine LCalls.weak hw ?_
      have hK : Rm (H.put p (.cells (cellsRb b rg s.m (empV p) ov) 56)) p b rg s (empV p) ov [] VO := by
        refine ⟨by rw [hget, if_pos rfl], by rw [hget, if_neg hpb.symm]; exact h.mem, by rw [hget, if_neg hpr.symm]; exact h.regs, .inl ⟨hj, rfl, .inr ⟨_, _, rfl⟩⟩, h.out.same fun i hi => ?_, h.nd⟩
        rw [hget, if_neg]
        intro e
        exact (List.nodup_append.1 h.nd).2.2 p (by simp) i (by simp [hi]) e.symm
      have hcK : Ly.Clean (H.put p (.cells (cellsRb b rg s.m (empV p) ov) 56)) := by
        intro i o hi
        rw [hget] at hi
        split at hi
        · simp only [Option.some.injEq] at hi; subst hi
          show noTokL _ = true
          rw [noR, h.out.noTok]; rfl
        · exact hc i o hi
      refine (R_inE hK hl hcK hb (R_ends hm hh h0 (jR_iE _ _) (riE _ _) htr (by decide) (by kernel_rfl) ⟨.inl rfl, .inl rfl, .inl rfl, trivial⟩)).mono ?_
      rintro u H' ⟨rfl, ⟨n1, n2, n3, n4, n5⟩, hN⟩
      refine ⟨rfl, ⟨n1, n2, n3, n4, fun i hi hO => ?_⟩, hN⟩
      rw [n5 i hi hO, hget, if_neg]
      intro e; exact hO (by simp [e])
    · obtain ⟨n, hn⟩ : ∃ n, s.N - s.j = n + 1 := ⟨s.N - s.j - 1, by omega⟩
      have e : inS s = { s with m := inM s.m (s.f s.j), j := s.j + 1 } := by
        unfold inS
        have : Nat.blt s.j s.N = true := by rw [Nat.blt_eq]; exact hj
        rw [this]; rfl
      rw [e]
      rw [hn] at h
      have hlt : Nat.blt s.j s.N = true := by rw [Nat.blt_eq]; exact hj
      exact R_inR hn h hx hl hc hb (R_ends hm hh h0 (jR_iR _ _ _ _ _ _) (riR _ _ _ _ _ _) (by simp [hlt, *]; omega) (by decide) (by kernel_rfl) ⟨.inl rfl, .inl rfl, .inl rfl, .inl rfl, trivial⟩)
theorem step_out {s : Js} (hs : s.Ok) (hq : s.q < 4294967296) (hh : s.m.halt = false) (h0 : s.g (ix s.m.pc) = 211) : StepsTo s (outS s (s.g (ix (w16 (s.m.pc + 1))))) 0 := by
  have hm := hs.m
  have hb1 := hs.g (ix (w16 (s.m.pc + 1)))
  obtain ⟨r0, r1, r2, r3, r4, r5, r7, sp, pc⟩ := id hm
  have eP : w8 (or16 0 (w16 (s.g (at1 s.m.pc 1)))) = s.g (ix (w16 (s.m.pc + 1))) := by
    have : B8 (s.g (at1 s.m.pc 1)) := hs.g _
    simp [*]
  have eR : w8 (w16 (s.g (ix (w16 (s.m.pc + 1))))) = s.g (ix (w16 (s.m.pc + 1))) := by simp [*]
  refine ⟨fun H p O V h hl hc hb => ?_, fun H p O V h hl hc hb => ?_⟩
  · obtain ⟨b, rg, iv, ov, VI, VO, h, rfl, rfl⟩ := h
    rcases h.out with ⟨hq0, rfl, rfl⟩ | ⟨hq0, y, rfl, rfl, hy⟩
    · refine P_out0 h hl hc hb (P_ends hm hh h0 (jP_o0 _ _) (po0 _ _ _ _) trivial (by decide) (by kernel_rfl) ⟨.inl ?_, .inl rfl, ?_, trivial⟩)
      · rw [hq0]
      · rw [hq0, eP]; exact out1 _ _ _ _
    · refine P_outR h hy hl hc hb (P_ends hm hh h0 (jP_oR _ _ _ _ _) (poR _ _ _ _ _ _ _) (by simp [fullT_of hq0 hq]) (by decide) (by kernel_rfl) ⟨.inl rfl, .inl rfl, ?_, trivial⟩)
      rw [eP]; exact out2 _ _ _ _ _
  · obtain ⟨b, rg, iv, ov, VI, VO, h, rfl, rfl⟩ := h
    have htr : trusted (tRI s.m) := by simp [tRI, *]
    rcases h.out with ⟨hq0, rfl, rfl⟩ | ⟨hq0, y, rfl, rfl, hy⟩
    · refine R_out0 h hl hc hb (R_ends hm hh h0 (jR_o0 _ _) (ro0 _ _) htr (by decide) (by kernel_rfl) ⟨.inl ?_, .inl rfl, .inl rfl, ?_, trivial⟩)
      · rw [hq0]
      · rw [hq0, eR]; exact out1 _ _ _ _
    · refine R_outR h hy hl hc hb (R_ends hm hh h0 (jR_oR _ _ _ _ _) (roR _ _ _ _ _) (by simp [fullT_of hq0 hq, *]) (by decide) (by kernel_rfl) ⟨.inl rfl, .inl rfl, .inl rfl, ?_, trivial⟩)
      rw [eR]; exact out2 _ _ _ _ _
theorem inM_ok {m : Mc} (h : m.Ok) {x : Int} (hx : B8 x) : (inM m x).Ok := by
  obtain ⟨r0, r1, r2, r3, r4, r5, r7, sp, pc⟩ := h
  constructor <;> simp [inM, *]
theorem outM_ok {m : Mc} (h : m.Ok) : (outM m).Ok := by
  obtain ⟨r0, r1, r2, r3, r4, r5, r7, sp, pc⟩ := h
  constructor <;> simp [outM, *]
theorem step_any (s : Js) (hs : s.Ok) (hq : s.q < 4294967296) : ∃ s' k, s'.Ok ∧ s'.q ≤ s.q + 1 ∧ s'.N = s.N ∧ StepsTo s s' k := by
  by_cases hh : s.m.halt = true
  · exact ⟨s, 13, hs, by omega, rfl, step_halt hh⟩
  have hh' : s.m.halt = false := by simpa using hh
  by_cases h1 : s.g (ix s.m.pc) = 219
  · refine ⟨inS s, 0, ?_, ?_, by unfold inS; cases Nat.blt s.j s.N <;> rfl, step_in hs hh' h1⟩
    · unfold inS
      cases hb : Nat.blt s.j s.N with
      | true =>
        have hlt : s.j < s.N := by rw [Nat.blt_eq] at hb; exact hb
        exact ⟨inM_ok hs.m (hs.f _ hlt), hs.g, hs.f, by show s.j + 1 ≤ s.N; omega⟩
      | false => exact ⟨inM_ok hs.m (by simp), hs.g, hs.f, hs.j⟩
    · unfold inS; cases Nat.blt s.j s.N <;> simp
  by_cases h2 : s.g (ix s.m.pc) = 211
  · exact ⟨outS s (s.g (ix (w16 (s.m.pc + 1)))), 0, ⟨outM_ok hs.m, hs.g, hs.f, hs.j⟩, by simp [outS], rfl, step_out hs hq hh' h2⟩
  obtain ⟨m', g', k, h3, h4, h5, h6⟩ := both s.m s.g hs.m hs.g hh' h1 h2
  exact ⟨{ s with m := m', g := g' }, k, ⟨h3, h4, hs.f, hs.j⟩, by simp, rfl, steps_tok h5 h6⟩
end Go.Proofs.Ytpggoincnebfnaa
namespace Go.Ly
open Go.RowKit
def RO.fin? : RO → Option (List (Bool × Bool) × Value × Heap)
  | .ok t (.done v H) => some (t, v, H)
  | _ => none
theorem MWp.fin {P : Program} {C : Ctx} {Q : Value → Heap → Prop} (hC : C.Ok P) {S : St} {t : List (Bool × Bool)} {v : Value} {H : Heap} (n : Nat) (p : Path) (h : (run C n p S).fin? = some (t, v, H)) (htr : trusted t) (hq : Q v H) : MWp P S Q := by
  cases hr : run C n p S with
  | no => rw [hr] at h; cases h
  | ok t' l =>
    cases l with
    | halt S' => rw [hr] at h; cases h
    | done v' H' =>
      rw [hr] at h
      simp only [RO.fin?, Option.some.injEq, Prod.mk.injEq] at h
      obtain ⟨rfl, rfl, rfl⟩ := h
      exact run_sound hC n p S _ _ hr htr hq
end Go.Ly
namespace Go.Proofs.Ytpggoincnebfnaa
open Go Go.Ly Go.RowKit
def cntV (c k : Int) : Value := .tuple ⟨[.int .i64 c, .int .i64 k]⟩
def rd16 : St := Ly.start Try.f16 [] H0
def k16 : List KI := ((Ly.run ctxH 60 [] (Ly.start Try.f16 [ptr 0, .int .i64 1] H0)).st rd16).top.k
def v16 (p : Nat) (n d : Int) : List Value := slots 22 [(0, ptr p), (1, .int .i64 n), (6, .int .i64 d), (13, ptr p)]
def rd17 : St := Ly.start Try.f17 [] H0
def k17 : List KI := ((Ly.run ctxH 60 [] (Ly.start Try.f17 [ptr 0, .int .i64 1] H0)).st rd17).top.k
def v17 (p : Nat) (n d : Int) : List Value := slots 21 [(0, ptr p), (1, .int .i64 n), (6, .int .i64 d), (13, ptr p)]
theorem gH16 : ctxH.fn.get 16 = some Try.f16 := by kernel_rfl
theorem gH17 : ctxH.fn.get 17 = some Try.f17 := by kernel_rfl
theorem run16_0 (p : Nat) (n : Int) (H : Heap) : (Ly.run ctxH 60 [(1, false)] (Ly.start Try.f16 [ptr p, .int .i64 n] H)).fin? = some ([(decide (0 < n), false)], cntV 0 0, H) := by kernel_rfl
theorem run16_1 (p : Nat) (n : Int) (H : Heap) : haltF [0, 1, 6, 13] rd16 (Ly.run ctxH 60 [(1, true)] (Ly.start Try.f16 [ptr p, .int .i64 n] H)) = (true, [(decide (0 < n), true)], true, (Try.f16, k16, none, H.next), v16 p n 0, H) := by kernel_rfl
theorem run16_k (p b : Nat) (n d k : Int) (H H' : Heap) : (Ly.run ctxH 60 [(0, true)] (behind (atSt Try.f16 k16 none b (v16 p n d) H) (.int .i64 k) H')).fin? = some ([(k != 0, true)], cntV d k, H') := by kernel_rfl
theorem run16_e (p b : Nat) (n d k : Int) (H H' : Heap) : (Ly.run ctxH 60 [(0, false), (0, false)] (behind (atSt Try.f16 k16 none b (v16 p n d) H) (.int .i64 k) H')).fin? = some ([(k != 0, false), (decide (IntKind.i64.wrap (d + 1) < n), false)], cntV (IntKind.i64.wrap (d + 1)) 0, H') := by kernel_rfl
theorem run16_n (p b : Nat) (n d k : Int) (H H' : Heap) : haltF [0, 1, 6, 13] rd16 (Ly.run ctxH 60 [(0, false), (0, true)] (behind (atSt Try.f16 k16 none b (v16 p n d) H) (.int .i64 k) H')) = (true, [(k != 0, false), (decide (IntKind.i64.wrap (d + 1) < n), true)], true, (Try.f16, k16, none, b), v16 p n (IntKind.i64.wrap (d + 1)), H') := by kernel_rfl
theorem call16 (p b : Nat) (n d : Int) (H : Heap) : callOf env (atSt Try.f16 k16 none b (v16 p n d) H) = some (13, [ptr p]) := by kernel_rfl
theorem run17_0 (p : Nat) (n : Int) (H : Heap) : (Ly.run ctxH 60 [(0, false)] (Ly.start Try.f17 [ptr p, .int .i64 n] H)).fin? = some ([(decide (0 < n), false)], cntV (bif decide (n < 0) then 0 else n) 0, H) := by kernel_rfl
theorem run17_1 (p : Nat) (n : Int) (H : Heap) : haltF [0, 1, 6, 13] rd17 (Ly.run ctxH 60 [(0, true)] (Ly.start Try.f17 [ptr p, .int .i64 n] H)) = (true, [(decide (0 < n), true)], true, (Try.f17, k17, none, H.next), v17 p n 0, H) := by kernel_rfl
theorem run17_k (p b : Nat) (n d k : Int) (H H' : Heap) : (Ly.run ctxH 60 [(0, true)] (behind (atSt Try.f17 k17 none b (v17 p n d) H) (.int .i64 k) H')).fin? = some ([(k != 0, true)], cntV d k, H') := by kernel_rfl
theorem run17_e (p b : Nat) (n d k : Int) (H H' : Heap) : (Ly.run ctxH 60 [(0, false), (0, false)] (behind (atSt Try.f17 k17 none b (v17 p n d) H) (.int .i64 k) H')).fin? = some ([(k != 0, false), (decide (IntKind.i64.wrap (d + 1) < n), false)], cntV (bif decide (n < 0) then 0 else n) 0, H') := by kernel_rfl
theorem run17_n (p b : Nat) (n d k : Int) (H H' : Heap) : haltF [0, 1, 6, 13] rd17 (Ly.run ctxH 60 [(0, false), (0, true)] (behind (atSt Try.f17 k17 none b (v17 p n d) H) (.int .i64 k) H')) = (true, [(k != 0, false), (decide (IntKind.i64.wrap (d + 1) < n), true)], true, (Try.f17, k17, none, b), v17 p n (IntKind.i64.wrap (d + 1)), H') := by kernel_rfl
theorem call17 (p b : Nat) (n d : Int) (H : Heap) : callOf env (atSt Try.f17 k17 none b (v17 p n d) H) = some (14, [ptr p]) := by kernel_rfl
structure NxN (H H' : Heap) (O : List Nat) (m : Nat) : Prop where
  lock : H'.lock = 0
  le : H.next ≤ H'.next
  ge : H'.next ≤ H.next + m
  clean : Ly.Clean H'
  old : ∀ i, i < H.next → i ∉ O → H'.get i = H.get i
def MN (M : Heap → Nat → Js → List Nat → List Nat → Prop) (H : Heap) (p : Nat) (s' : Js) (O V : List Nat) (m : Nat) (H' : Heap) : Prop := NxN H H' O m ∧ ∃ O' V', M H' p s' O' V' ∧ (∀ i ∈ O', i ∈ O ∨ H.next ≤ i) ∧ (∀ i ∈ V', i ∈ V ∨ H.next ≤ i)
theorem MN.step {M : Heap → Nat → Js → List Nat → List Nat → Prop} {H H1 H2 : Heap} {p m : Nat} {s2 : Js} {O V O1 V1 : List Nat} (h1 : Nx H H1 O) (hO : ∀ i ∈ O1, i ∈ O ∨ H.next ≤ i) (hV : ∀ i ∈ V1, i ∈ V ∨ H.next ≤ i) (h2 : MN M H1 p s2 O1 V1 m H2) : MN M H p s2 O V (m + 64) H2 := by
  obtain ⟨⟨a1, a2, a3, a4, a5⟩, O', V', b1, b2, b3⟩ := h2
  refine ⟨⟨a1, by have := h1.le; omega, by have := h1.ge; omega, a4, fun i hi hiO => ?_⟩, O', V', b1, fun i hi => ?_, fun i hi => ?_⟩
  · rw [a5 i (by have := h1.le; omega) (fun h => ?_), h1.old i hi hiO]
    rcases hO i h with h3 | h3
    · exact hiO h3
    · omega
  · rcases b2 i hi with h3 | h3
    · exact hO i h3
    · right; have := h1.le; omega
  · rcases b3 i hi with h3 | h3
    · exact hV i h3
    · right; have := h1.le; omega
theorem MN.of {M : Heap → Nat → Js → List Nat → List Nat → Prop} {H H1 : Heap} {p : Nat} {s1 : Js} {O V O1 V1 : List Nat} (m : Nat) (h1 : Nx H H1 O) (hO : ∀ i ∈ O1, i ∈ O ∨ H.next ≤ i) (hV : ∀ i ∈ V1, i ∈ V ∨ H.next ≤ i) (h : M H1 p s1 O1 V1) : MN M H p s1 O V (m + 64) H1 :=
  ⟨⟨h1.lock, h1.le, by have := h1.ge; omega, h1.clean, h1.old⟩, O1, V1, h, hO, hV⟩
theorem runs_from (n : Int) (hn : n ≤ 1000000) : ∀ (r : Nat) (d : Int) (s : Js), 0 ≤ d → d < n → (n - d).toNat = r → s.Ok → s.q + r < 4294967296 → ∃ s' c k, s'.Ok ∧ s'.q ≤ s.q + r ∧ s'.N = s.N ∧
    (∀ H p O V b, PM H p s O V → H.lock = 0 → Ly.Clean H → H.next + 64 * r < big → MWp Try.prog (atSt Try.f16 k16 none b (v16 p n d) H) (fun u H' => u = cntV c k ∧ MN PM H p s' O V (64 * r) H')) ∧
    (∀ H p O V b, RM H p s O V → H.lock = 0 → Ly.Clean H → H.next + 64 * r < big → MWp Try.prog (atSt Try.f17 k17 none b (v17 p n d) H) (fun u H' => u = cntV c k ∧ MN RM H p s' O V (64 * r) H'))
  | 0, d, s, h0, h1, hr, _, _ => by omega
  | r + 1, d, s, h0, h1, hr, hs, hq => by
    obtain ⟨s1, k, hs1, hq1, hn1, hP, hR⟩ := step_any s hs (by omega)
    have hw : IntKind.i64.wrap (d + 1) = d + 1 := by rw [IntKind.wrap_i64]; omega
    by_cases hk : k = 0
    · by_cases hd : d + 1 < n
      · obtain ⟨s2, c, k2, hs2, hq2, hn2, iP, iR⟩ := runs_from n hn r (d + 1) s1 (by omega) hd (by omega) hs1 (by omega)
        refine ⟨s2, c, k2, hs2, by omega, hn2.trans hn1, fun H p O V b h hl hc hb => ?_, fun H p O V b h hl hc hb => ?_⟩
        · refine MWp.call envOk (call16 p b n d H) (hP H p O V h hl hc (by omega)) ?_
          rintro v H' ⟨rfl, hN, O1, V1, hM, hO, hV⟩
          refine MWp.halted ctxH_ok [0, 1, 6, 13] 60 _ (run16_n p b n d k H H') (by rw [hw]; simp [hk, hd]) ?_
          rw [hw]
          refine (iP H' p O1 V1 b hM hN.lock hN.clean (by have := hN.ge; omega)).mono ?_
          rintro u K ⟨rfl, hK⟩
          exact ⟨rfl, by rw [show 64 * (r + 1) = 64 * r + 64 by omega]; exact MN.step hN hO hV hK⟩
        · refine MWp.call envOk (call17 p b n d H) (hR H p O V h hl hc (by omega)) ?_
          rintro v H' ⟨rfl, hN, O1, V1, hM, hO, hV⟩
          refine MWp.halted ctxH_ok [0, 1, 6, 13] 60 _ (run17_n p b n d k H H') (by rw [hw]; simp [hk, hd]) ?_
          rw [hw]
          refine (iR H' p O1 V1 b hM hN.lock hN.clean (by have := hN.ge; omega)).mono ?_
          rintro u K ⟨rfl, hK⟩
          exact ⟨rfl, by rw [show 64 * (r + 1) = 64 * r + 64 by omega]; exact MN.step hN hO hV hK⟩
      · have hd1 : d + 1 = n := by omega
        refine ⟨s1, n, 0, hs1, by omega, hn1, fun H p O V b h hl hc hb => ?_, fun H p O V b h hl hc hb => ?_⟩
        · refine MWp.call envOk (call16 p b n d H) (hP H p O V h hl hc (by omega)) ?_
          rintro v H' ⟨rfl, hN, O1, V1, hM, hO, hV⟩
          refine MWp.fin ctxH_ok 60 _ (run16_e p b n d k H H') (by rw [hw]; simp [hk, hd]) ⟨by rw [hw, hd1], by rw [show 64 * (r + 1) = 64 * r + 64 by omega]; exact MN.of _ hN hO hV hM⟩
        · refine MWp.call envOk (call17 p b n d H) (hR H p O V h hl hc (by omega)) ?_
          rintro v H' ⟨rfl, hN, O1, V1, hM, hO, hV⟩
          have hneg : decide (n < 0) = false := by simp; omega
          refine MWp.fin ctxH_ok 60 _ (run17_e p b n d k H H') (by rw [hw]; simp [hk, hd]) ⟨by rw [hneg]; rfl, by rw [show 64 * (r + 1) = 64 * r + 64 by omega]; exact MN.of _ hN hO hV hM⟩
    · refine ⟨s1, d, k, hs1, by omega, hn1, fun H p O V b h hl hc hb => ?_, fun H p O V b h hl hc hb => ?_⟩
      · refine MWp.call envOk (call16 p b n d H) (hP H p O V h hl hc (by omega)) ?_
        rintro v H' ⟨rfl, hN, O1, V1, hM, hO, hV⟩
        exact MWp.fin ctxH_ok 60 _ (run16_k p b n d k H H') (by simp [hk]) ⟨rfl, by rw [show 64 * (r + 1) = 64 * r + 64 by omega]; exact MN.of _ hN hO hV hM⟩
      · refine MWp.call envOk (call17 p b n d H) (hR H p O V h hl hc (by omega)) ?_
        rintro v H' ⟨rfl, hN, O1, V1, hM, hO, hV⟩
        exact MWp.fin ctxH_ok 60 _ (run17_k p b n d k H H') (by simp [hk]) ⟨rfl, by rw [show 64 * (r + 1) = 64 * r + 64 by omega]; exact MN.of _ hN hO hV hM⟩
def RunsTo (s : Js) (n : Int) (s' : Js) (c k : Int) (m : Nat) : Prop := (∀ H p O V, PM H p s O V → H.lock = 0 → Ly.Clean H → H.next + m < big → LCalls Try.prog 16 [ptr p, .int .i64 n] H (fun u H' => u = cntV c k ∧ MN PM H p s' O V m H')) ∧ (∀ H p O V, RM H p s O V → H.lock = 0 → Ly.Clean H → H.next + m < big → LCalls Try.prog 17 [ptr p, .int .i64 n] H (fun u H' => u = cntV c k ∧ MN RM H p s' O V m H'))
theorem MN.refl {M : Heap → Nat → Js → List Nat → List Nat → Prop} {H : Heap} {p : Nat} {s : Js} {O V : List Nat} (m : Nat) (hl : H.lock = 0) (hc : Ly.Clean H) (h : M H p s O V) : MN M H p s O V m H :=
  ⟨⟨hl, Nat.le_refl _, by omega, hc, fun _ _ _ => rfl⟩, O, V, h, fun i hi => .inl hi, fun i hi => .inl hi⟩
theorem run_any (n : Int) (hn : n ≤ 1000000) (s : Js) (hs : s.Ok) (hq : s.q + n.toNat < 4294967296) : ∃ s' c k, s'.Ok ∧ s'.q ≤ s.q + n.toNat ∧ s'.N = s.N ∧ RunsTo s n s' c k (64 * n.toNat) := by
  by_cases h0 : 0 < n
  · obtain ⟨s', c, k, h1, h2, h3, hP, hR⟩ := runs_from n hn n.toNat 0 s (by omega) h0 (by omega) hs hq
    refine ⟨s', c, k, h1, h2, h3, fun H p O V h hl hc hb => ?_, fun H p O V h hl hc hb => ?_⟩
    · refine LCalls_of ctxH_ok gH16 (by kernel_rfl) (MWp.halted ctxH_ok [0, 1, 6, 13] 60 _ (run16_1 p n H) (by simp [h0]) ?_)
      exact hP H p O V _ h hl hc hb
    · refine LCalls_of ctxH_ok gH17 (by kernel_rfl) (MWp.halted ctxH_ok [0, 1, 6, 13] 60 _ (run17_1 p n H) (by simp [h0]) ?_)
      exact hR H p O V _ h hl hc hb
  · refine ⟨s, 0, 0, hs, by omega, rfl, fun H p O V h hl hc hb => ?_, fun H p O V h hl hc hb => ?_⟩
    · exact LCalls_of ctxH_ok gH16 (by kernel_rfl) (MWp.fin ctxH_ok 60 _ (run16_0 p n H) (by simp; omega) ⟨rfl, MN.refl _ hl hc h⟩)
    · have e : (bif decide (n < 0) then 0 else n) = 0 := by
        by_cases hneg : n < 0
        · simp [hneg]
        · have : n = 0 := by omega
          simp [this]
      exact LCalls_of ctxH_ok gH17 (by kernel_rfl) (MWp.fin ctxH_ok 60 _ (run17_0 p n H) (by simp; omega) ⟨by rw [e], MN.refl _ hl hc h⟩)
end Go.Proofs.Ytpggoincnebfnaa
namespace Go.Proofs.Ytpggoincnebfnaa
open Go Go.Ly Go.RowKit
def MRowS (w : World) (i : Nat) (a b : Nat → Int) (n : Nat) (loc v : Value) (p : Option Plc) : Prop :=
  (loc = .slice none 0 0 ∧ v = .slice none 0 0 ∧ n = 0 ∧ p = none) ∨ (loc = sls i n ∧ RealRows w 2 (fun e j => match j with | 0 => .int .u16 (a e) | _ + 1 => .int .u8 (b e)) n v p)
theorem m_casesS {w : World} {v : Value} (h : CkOk w (.slice [.int .u16, .int .u8]) v) : ∃ (a b : Nat → Int) (n : Nat) (loc : Value) (p : Option Plc), MRowS w 1 a b n loc v p ∧ (∀ e, e < n → B16 (a e) ∧ B8 (b e)) ∧ n ≤ maxLen := by
  rcases ck_bytes2 h with rfl | ⟨n, a, b, p, hr, hf, hn⟩
  · exact ⟨fun _ => 0, fun _ => 0, 0, .slice none 0 0, none, .inl ⟨rfl, rfl, rfl, rfl⟩, fun e he => by omega, by simp [maxLen]⟩
  · exact ⟨a, b, n, sls 1 n, p, .inr ⟨rfl, hr⟩, hf, hn⟩
end Go.Proofs.Ytpggoincnebfnaa
namespace Go.Proofs.Ytpggoincnebfnaa
open Go Go.Ly Go.RowKit
def Gok (n : Nat) (G : Nat → Nat → Value) : Prop := ∀ e, e < n → ∃ x y, G e 0 = .int .u16 x ∧ G e 1 = .int .u8 y ∧ B16 x ∧ B8 y
theorem Gok.ok {n : Nat} {G : Nat → Nat → Value} (h : Gok n G) (hn : n ≤ 1000) : okM n G = true := by
  unfold okM
  rw [Bool.and_eq_true, Nat.ble_eq, List.all_eq_true]
  refine ⟨hn, fun e he => ?_⟩
  obtain ⟨x, y, h1, h2, h3, h4⟩ := h e (List.mem_range.1 he)
  rw [h1, h2]
  simp [isK, kbeq, intV, h3]
theorem Gok.mem {n : Nat} {G : Nat → Nat → Value} (h : Gok n G) : Mem (memF (atOf G) (byOf G) n) := by
  refine memF_mem n fun e he => ?_
  obtain ⟨x, y, h1, h2, h3, h4⟩ := h e he
  show B8 (intV (G e 1))
  rw [h2]; exact h4
theorem Gok.shift {n : Nat} {G : Nat → Nat → Value} (h : Gok n G) : Gok n (fun i j => G (0 + i) j) := fun e he => by
  simp only [Nat.zero_add]; exact h e he
theorem Gok.join {m n : Nat} {g h : Nat → Nat → Value} (hg : Gok m g) (hh : Gok n h) : Gok (m + n) (joinG m g h) := fun e he => by
  simp only [joinG, vif_eq]
  cases hb : Nat.blt e m with
  | true => exact hg e (by simpa [Nat.blt_eq] using hb)
  | false =>
    have : ¬ e < m := fun x => by
      have : Nat.blt e m = true := by simpa [Nat.blt_eq] using x
      rw [this] at hb; cases hb
    exact hh (e - m) (by omega)
def bbG (fa fb : Nat → Int) : Nat → Nat → Value := fun e j => match j with | 0 => .int .u16 (fa e) | _ + 1 => .int .u8 (fb e)
theorem Gok.bb {fa fb : Nat → Int} {n : Nat} (h : ∀ e, e < n → B16 (fa e) ∧ B8 (fb e)) : Gok n (bbG fa fb) := fun e he => ⟨fa e, fb e, rfl, rfl, h e he⟩
theorem Gok.nil {G : Nat → Nat → Value} : Gok 0 G := fun e he => by omega
theorem Gok.cons {n : Nat} {x y : Int} {l : List Value} (hx : B16 x) (hy : B8 y) (h : Gok n (lstG 2 n l)) : Gok (n + 1) (lstG 2 (n + 1) (.int .u16 x :: .int .u8 y :: l)) := fun e he => by
  cases n with
  | zero =>
    obtain rfl : e = 0 := by omega
    exact ⟨x, y, rfl, rfl, hx, hy⟩
  | succ n =>
    cases e with
    | zero => exact ⟨x, y, by rw [lstG, vif_eq]; rfl, by rw [lstG, vif_eq]; rfl, hx, hy⟩
    | succ e =>
      obtain ⟨u, v, h1, h2, h3⟩ := h e (by omega)
      have e1 : Nat.beq (e + 1) 0 = false := rfl
      exact ⟨u, v, by rw [lstG, vif_eq, e1]; exact h1, by rw [lstG, vif_eq, e1]; exact h2, h3⟩
def mOf (s : Sv) : Mc := ⟨s.r0, s.r1, s.r2, s.r3, s.r4, s.r5, s.r7, s.fs, s.fz, s.fx, s.fp, s.fc, s.sp, s.pc, s.ie, false⟩
theorem mOf_ok {s : Sv} (h : s.Ok) : (mOf s).Ok := by
  obtain ⟨⟨h0, h1, h2, h3, h4, h5, h6, h7⟩, h8, h9⟩ := h
  exact ⟨h0, h1, h2, h3, h4, h5, h7, h8, h9⟩
def jOf (s : Sv) (g : Nat → Int) (N : Nat) (f : Nat → Int) : Js := ⟨mOf s, g, 0, N, f, 0, fun _ => 0, fun _ => 0⟩
theorem jOf_ok {s : Sv} {g : Nat → Int} {N : Nat} {f : Nat → Int} (hs : s.Ok) (hg : Mem g) (hf : ∀ e, e < N → B8 (f e)) : (jOf s g N f).Ok := ⟨mOf_ok hs, hg, hf, Nat.zero_le _⟩
structure Opened (H : Heap) (p r : Nat) (s : Js) (O V O2 V2 : List Nat) : Prop where
  lock : H.lock = 0
  clean : Ly.Clean H
  P : PM H p s O V
  R : RM H r s O2 V2
  apart : Apart V V2
theorem opened_N {H : Heap} {s : Sv} {g : Nat → Int} {f : Nat → Int} {p b r b2 rg : Nat} (hl : H.lock = 0) (hc : Ly.Clean H) (h1 : H.get p = some (.cells (cellsPb b 0 (mOf s) nilV nilV) 60)) (h2 : H.get b = some (memL g))
    (h3 : H.get r = some (.cells (cellsRb b2 rg (mOf s) nilV nilV) 56)) (h4 : H.get b2 = some (memL g)) (h5 : H.get rg = some (regsR (mOf s))) (hn : ([p, b] ++ [r, b2, rg]).Nodup) :
    Opened H p r (jOf s g 0 f) [p, b] [p, b] [r, b2, rg] [r, b2, rg] := by
  have hd := List.nodup_append.1 hn
  exact ⟨hl, hc, ⟨b, 0, nilV, nilV, [], [], ⟨h1, h2, trivial, .inl ⟨rfl, rfl, .inl rfl⟩, .inl ⟨rfl, rfl, rfl⟩, hd.1⟩, rfl, rfl⟩,
    ⟨b2, rg, nilV, nilV, [], [], ⟨h3, h4, h5, .inl ⟨rfl, rfl, .inl rfl⟩, .inl ⟨rfl, rfl, rfl⟩, hd.2.1⟩, rfl, rfl⟩, fun i hi hi2 => hd.2.2 i hi i hi2 rfl⟩
theorem opened_E {H : Heap} {s : Sv} {g : Nat → Int} {f : Nat → Int} {p b r b2 rg c c2 : Nat} {a a2 : Addr} (hl : H.lock = 0) (hc : Ly.Clean H) (h1 : H.get p = some (.cells (cellsPb b 0 (mOf s) (.slice (some a) 0 c) nilV) 60)) (h2 : H.get b = some (memL g))
    (h3 : H.get r = some (.cells (cellsRb b2 rg (mOf s) (.slice (some a2) 0 c2) nilV) 56)) (h4 : H.get b2 = some (memL g)) (h5 : H.get rg = some (regsR (mOf s))) (hn : ([p, b] ++ [r, b2, rg]).Nodup) :
    Opened H p r (jOf s g 0 f) [p, b] [p, b] [r, b2, rg] [r, b2, rg] := by
  have hd := List.nodup_append.1 hn
  exact ⟨hl, hc, ⟨b, 0, _, nilV, [], [], ⟨h1, h2, trivial, .inl ⟨rfl, rfl, .inr ⟨_, _, rfl⟩⟩, .inl ⟨rfl, rfl, rfl⟩, hd.1⟩, rfl, rfl⟩,
    ⟨b2, rg, _, nilV, [], [], ⟨h3, h4, h5, .inl ⟨rfl, rfl, .inr ⟨_, _, rfl⟩⟩, .inl ⟨rfl, rfl, rfl⟩, hd.2.1⟩, rfl, rfl⟩, fun i hi hi2 => hd.2.2 i hi i hi2 rfl⟩
theorem opened_R {H : Heap} {s : Sv} {g : Nat → Int} {f : Nat → Int} {p b r b2 rg x x2 n : Nat} (hl : H.lock = 0) (hc : Ly.Clean H) (h1 : H.get p = some (.cells (cellsPb b 0 (mOf s) (inV x 0 (n + 1)) nilV) 60)) (h2 : H.get b = some (memL g))
    (h3 : H.get r = some (.cells (cellsRb b2 rg (mOf s) (inV x2 0 (n + 1)) nilV) 56)) (h4 : H.get b2 = some (memL g)) (h5 : H.get rg = some (regsR (mOf s))) (hx : H.get x = some (rowP f (n + 1))) (hx2 : H.get x2 = some (rowR f (n + 1)))
    (hn : ([p, b, x] ++ [r, b2, rg, x2]).Nodup) : Opened H p r (jOf s g (n + 1) f) [p, b] [p, b, x] [r, b2, rg] [r, b2, rg, x2] := by
  have hd := List.nodup_append.1 hn
  exact ⟨hl, hc, ⟨b, 0, _, nilV, [x], [], ⟨h1, h2, trivial, .inr ⟨Nat.succ_pos n, x, rfl, rfl, hx⟩, .inl ⟨rfl, rfl, rfl⟩, hd.1⟩, rfl, rfl⟩,
    ⟨b2, rg, _, nilV, [x2], [], ⟨h3, h4, h5, .inr ⟨Nat.succ_pos n, x2, rfl, rfl, hx2⟩, .inl ⟨rfl, rfl, rfl⟩, hd.2.1⟩, rfl, rfl⟩, fun i hi hi2 => hd.2.2 i hi i hi2 rfl⟩
end Go.Proofs.Ytpggoincnebfnaa
namespace Go.Proofs.Ytpggoincnebfnaa
open Go Go.Ly Go.RowKit
end Go.Proofs.Ytpggoincnebfnaa
namespace Go.Proofs.Ytpggoincnebfnaa
open Go Go.Ly Go.RowKit
theorem PM.sub {H : Heap} {p : Nat} {s : Js} {O V : List Nat} (h : PM H p s O V) : ∀ i ∈ O, i ∈ V := by
  obtain ⟨b, rg, iv, ov, VI, VO, h, rfl, rfl⟩ := h
  intro i hi; simp at hi ⊢; grind
theorem RM.sub {H : Heap} {p : Nat} {s : Js} {O V : List Nat} (h : RM H p s O V) : ∀ i ∈ O, i ∈ V := by
  obtain ⟨b, rg, iv, ov, VI, VO, h, rfl, rfl⟩ := h
  intro i hi; simp at hi ⊢; grind
theorem InAt.lt {row : (Nat → Int) → Nat → LO} {H : Heap} {iv : Value} {j N : Nat} {f : Nat → Int} {V : List Nat} (hlt : ∀ i o, H.get i = some o → i < H.next) (h : InAt row H iv j N f V) : ∀ i ∈ V, i < H.next := by
  rcases h with ⟨_, rfl, _⟩ | ⟨_, x, rfl, _, hx⟩
  · intro i hi; cases hi
  · intro i hi; simp at hi; subst hi; exact hlt _ _ hx
theorem OutAt.lt {H : Heap} {ov : Value} {q : Nat} {fp fb : Nat → Int} {V : List Nat} (hlt : ∀ i o, H.get i = some o → i < H.next) (h : OutAt H ov q fp fb V) : ∀ i ∈ V, i < H.next := by
  rcases h with ⟨_, rfl, _⟩ | ⟨_, x, rfl, _, hx⟩
  · intro i hi; cases hi
  · intro i hi; simp at hi; subst hi; exact hlt _ _ hx
theorem PM.lt {H : Heap} {p : Nat} {s : Js} {O V : List Nat} (hlt : ∀ i o, H.get i = some o → i < H.next) (h : PM H p s O V) : ∀ i ∈ V, i < H.next := by
  obtain ⟨b, rg, iv, ov, VI, VO, h, rfl, rfl⟩ := h
  intro i hi
  simp only [List.mem_append, List.mem_cons, List.not_mem_nil, or_false] at hi
  rcases hi with (rfl | rfl) | hi | hi
  · exact hlt _ _ h.cells
  · exact hlt _ _ h.mem
  · exact h.inn.lt hlt i hi
  · exact h.out.lt hlt i hi
theorem RM.lt {H : Heap} {p : Nat} {s : Js} {O V : List Nat} (hlt : ∀ i o, H.get i = some o → i < H.next) (h : RM H p s O V) : ∀ i ∈ V, i < H.next := by
  obtain ⟨b, rg, iv, ov, VI, VO, h, rfl, rfl⟩ := h
  intro i hi
  simp only [List.mem_append, List.mem_cons, List.not_mem_nil, or_false] at hi
  rcases hi with (rfl | rfl | rfl) | hi | hi
  · exact hlt _ _ h.cells
  · exact hlt _ _ h.mem
  · exact hlt _ _ h.regs
  · exact h.inn.lt hlt i hi
  · exact h.out.lt hlt i hi
structure Two (H : Heap) (p r : Nat) (s t : Js) (O V O2 V2 : List Nat) : Prop where
  lock : H.lock = 0
  clean : Ly.Clean H
  P : PM H p s O V
  R : RM H r t O2 V2
  apart : Apart V V2
theorem Opened.two {H : Heap} {p r : Nat} {s : Js} {O V O2 V2 : List Nat} (h : Opened H p r s O V O2 V2) : Two H p r s s O V O2 V2 := ⟨h.lock, h.clean, h.P, h.R, h.apart⟩
theorem Nx.n {H H' : Heap} {O : List Nat} (h : Nx H H' O) : NxN H H' O 64 := ⟨h.lock, h.le, h.ge, h.clean, h.old⟩
theorem Two.stepP {H H1 : Heap} {p r m : Nat} {s s' t : Js} {O V O1 V1 O2 V2 : List Nat} (hlt : ∀ i o, H.get i = some o → i < H.next) (h : Two H p r s t O V O2 V2) (hN : NxN H H1 O m) (hM : PM H1 p s' O1 V1) (hV : ∀ i ∈ V1, i ∈ V ∨ H.next ≤ i) : Two H1 p r s' t O1 V1 O2 V2 :=
  ⟨hN.lock, hN.clean, hM, h.R.same fun i hi => hN.old i (h.R.lt hlt i hi) (fun hO => h.apart i (h.P.sub i hO) hi), fun i hi hi2 => by
    rcases hV i hi with h1 | h1
    · exact h.apart i h1 hi2
    · have := h.R.lt hlt i hi2; omega⟩
theorem Two.stepR {H H1 : Heap} {p r m : Nat} {s t t' : Js} {O V O1 V1 O2 V2 : List Nat} (hlt : ∀ i o, H.get i = some o → i < H.next) (h : Two H p r s t O V O2 V2) (hN : NxN H H1 O2 m) (hM : RM H1 r t' O1 V1) (hV : ∀ i ∈ V1, i ∈ V2 ∨ H.next ≤ i) : Two H1 p r s t' O V O1 V1 :=
  ⟨hN.lock, hN.clean, h.P.same fun i hi => hN.old i (h.P.lt hlt i hi) (fun hO => h.apart i hi (h.R.sub i hO)), hM, fun i hi hi2 => by
    rcases hV i hi2 with h1 | h1
    · exact h.apart i hi h1
    · have := h.P.lt hlt i hi; omega⟩
theorem Two.same {H : Heap} {p r : Nat} {s : Js} {O V O2 V2 : List Nat} (h : Two H p r s s O V O2 V2) (hb : H.next + 16 < big) (hN : s.N ≤ 9223372036854775807) (hq : s.q ≤ 9223372036854775806) : LCalls Try.prog 15 [ptr p, ptr r] H (fun u _ => u = .bool true) :=
  same_calls h.P h.R h.apart h.lock h.clean hb hN hq
end Go.Proofs.Ytpggoincnebfnaa
namespace Go.Proofs.Ytpggoincnebfnaa
open Go Go.Ly Go.RowKit
def sv0 : Sv := ⟨0, 0, 0, 0, 0, 0, 0, 0, false, false, false, false, false, 0, 0, false⟩
def GA (L : List Value) (c : Nat) : Nat → Nat → Value := lstG 2 c L
def gm (G : Nat → Nat → Value) (c : Nat) : Nat → Int := memF (atOf G) (byOf G) c
def gs (g : Nat → Int) : Nat → Int := fun e => g (0 + e)
theorem gs_eq (g : Nat → Int) : gs g = g := by funext e; unfold gs; rw [Nat.zero_add]
def tLi (n : Nat) : Bool × Bool := (decide (((n + 1 : Nat) : Int) ≤ 300) == true, true)
def tMx (n : Nat) : Bool × Bool := (decide ((256 : Int) < ((n + 1 : Nat) : Int)), false)
def tR1 (k : Nat) : Bool × Bool := (Nat.ble (0 + (k + 1)) (k + 1) && (true && Nat.ble (0 + (k + 1)) 4294967296), true)
theorem tLi_ok {n : Nat} (h : n + 1 ≤ 300) : trusted [tLi n] := ⟨by show (decide (((n + 1 : Nat) : Int) ≤ 300) == true) = true; rw [decide_eq_true (by omega)]; rfl, trivial⟩
theorem tMx_ok {n : Nat} (h : n + 1 ≤ 256) : trusted [tMx n] := ⟨by show decide ((256 : Int) < ((n + 1 : Nat) : Int)) = false; exact decide_eq_false (by omega), trivial⟩
theorem tR1_ok {k : Nat} (h : k ≤ 1000) : trusted [tR1 k] := by
  refine ⟨?_, trivial⟩
  show (Nat.ble (0 + (k + 1)) (k + 1) && (true && Nat.ble (0 + (k + 1)) 4294967296)) = true
  rw [Nat.zero_add, Bool.and_eq_true, Bool.and_eq_true, Nat.ble_eq, Nat.ble_eq]
  exact ⟨Nat.le_refl _, rfl, by omega⟩
theorem tr_cons {x : Bool × Bool} {l : List (Bool × Bool)} (h : trusted [x]) (k : trusted l) : trusted (x :: l) := ⟨h.1, k⟩
end Go.Proofs.Ytpggoincnebfnaa
namespace Go.Proofs.Ytpggoincnebfnaa
open Go Go.Ly Go.RowKit
def rd4 : St := Ly.start Try.f4 [] H0
def st40 : St := Ly.start Try.f4 [svV sv0 nilS nilS, sl 2 0, .int .i64 0] (mkH [some (ints .u8 (fun _ => 0) 0), some (bytes2 (fun _ => 0) (fun _ => 0) 0), some (ints .u8 (fun _ => 0) 0)])
def k4 : List KI := ((Ly.run ctxH 73 [] st40).st rd4).top.k
set_option maxRecDepth 100000 in
def k4z : List KI := ((Ly.run ctxH 9000 [] st40).st rd4).top.k
def sc4 (s : Sv) (i m : Value) : LO := .cells [.int .u8 s.r0, .int .u8 s.r1, .int .u8 s.r2, .int .u8 s.r3, .int .u8 s.r4, .int .u8 s.r5, .int .u8 0, .int .u8 s.r7, .bool s.fs, .bool s.fz, .bool s.fx, .bool s.fp, .bool s.fc, .int .u16 s.sp, .int .u16 s.pc, .bool s.ie, i, m] 29
def v4 (c : Nat) (st i : Int) (x : Value) : List Value := slots 106 [(1, sl 2 c), (2, .int .i64 st), (3, ptr 3), (6, .bool false), (7, x), (8, .int .i64 i)]
def v4z (p r : Nat) (st : Int) : List Value := slots 106 [(2, .int .i64 st), (9, ptr p), (10, ptr r), (79, ptr p), (80, .int .i64 st)]
def rowG (G : Nat → Nat → Value) (q : Nat) : LO := .fn 2 G q 33
def os4 (s : Sv) (iv mv : Value) (I M : LO) (c : Nat) (fc : Nat → Int) (R : LO) : List (Option LO) := [some I, some M, some (ints .u8 fc c), some (sc4 s iv mv), some R]
def b4 (s : Sv) (fc : Nat → Int) (i : Int) : List Value := [.int .u16 (w16 (s.pc + w16 i)), .int .u8 (fc (ix i))]
def sh (G : Nat → Nat → Value) : Nat → Nat → Value := fun i j => G (0 + i) j
def J4 (s : Sv) (fc : Nat → Int) (q : Nat) (G : Nat → Nat → Value) (i : Int) : Nat → Nat → Value := joinG q (sh G) (lstG 2 1 (b4 s fc i))
def tC (c : Nat) : Bool × Bool := (decide ((200 : Int) < (c : Int)) == false, true)
def tS (st : Int) : Bool × Bool := (decide ((300 : Int) < st) == false, true)
def tLn (k : Nat) : Bool × Bool := ((!(decide (((k + 1 : Nat) : Int) ≤ 300))) == false, true)
def tI4 (i : Int) (c : Nat) : List (Bool × Bool) := [(decide (i < (c : Int)), true), (decide (0 ≤ i) && decide (i < (c : Int)), true), (Nat.blt (ix i) c, true)]
def tF4 (q : Nat) : Bool × Bool := (true && (Nat.ble (0 + q) q && ((Nat.beq 2 2 && (Nat.beq 33 33 && (Nat.beq q q && true))) && (Nat.ble 1 q && Nat.ble (q + 1) 4294967296))), true)
def tE4 (i : Int) (c : Nat) : Bool × Bool := (decide (i < (c : Int)), false)
def t6 (q : Nat) : Bool × Bool := (decide ((600 : Int) < (q : Int)), false)
def tOkG (G : Nat → Nat → Value) (m q : Nat) : Bool × Bool := (Nat.ble (0 + q) m && (true && okM q G), true)
theorem tC_ok {c : Nat} (h : c ≤ 200) : trusted [tC c] := ⟨by show (decide ((200 : Int) < (c : Int)) == false) = true; rw [decide_eq_false (by omega)]; rfl, trivial⟩
theorem tS_ok {st : Int} (h : st ≤ 300) : trusted [tS st] := ⟨by show (decide ((300 : Int) < st) == false) = true; rw [decide_eq_false (by omega)]; rfl, trivial⟩
set_option maxRecDepth 100000 in
theorem tLn_ok {k : Nat} (h : k + 1 ≤ 300) : trusted [tLn k] := by
  have e2 : (tLn k).1 = true := by unfold tLn; simp only []; rw [decide_eq_true (by omega)]; rfl
  exact ⟨e2, trivial⟩
theorem tC_no {c : Nat} (h : 200 < c) : trusted [((tC c).1, false)] := ⟨by show (decide ((200 : Int) < (c : Int)) == false) = false; rw [decide_eq_true (by omega)]; rfl, trivial⟩
theorem tS_no {st : Int} (h : 300 < st) : trusted [((tS st).1, false)] := ⟨by show (decide ((300 : Int) < st) == false) = false; rw [decide_eq_true (by omega)]; rfl, trivial⟩
set_option maxRecDepth 100000 in
theorem tLn_no {k : Nat} (h : ¬ k + 1 ≤ 300) : trusted [((tLn k).1, false)] := ⟨by
  have e : (tLn k).1 = ((!(decide (((k + 1 : Nat) : Int) ≤ 300))) == false) := by unfold tLn; rfl
  rw [e, decide_eq_false (by omega)]; rfl, trivial⟩
theorem tE4_ok {i : Int} {c : Nat} (h : (c : Int) ≤ i) : trusted [tE4 i c] := ⟨decide_eq_false (by omega), trivial⟩
theorem t6_ok {q : Nat} (h : q ≤ 600) : trusted [t6 q] := ⟨decide_eq_false (by omega), trivial⟩
theorem tI4_ok {i : Int} {c : Nat} (h0 : 0 ≤ i) (h : i < (c : Int)) : trusted (tI4 i c) := by
  have e : Nat.blt (ix i) c = true := by rw [Nat.blt_eq]; unfold ix; omega
  simp [tI4, h0, h, e]
theorem tF4_ok {q : Nat} (h0 : 1 ≤ q) (h : q ≤ 1000) : trusted [tF4 q] := by
  refine ⟨?_, trivial⟩
  show (true && (Nat.ble (0 + q) q && ((Nat.beq 2 2 && (Nat.beq 33 33 && (Nat.beq q q && true))) && (Nat.ble 1 q && Nat.ble (q + 1) 4294967296)))) = true
  have e1 : Nat.ble q q = true := by rw [Nat.ble_eq]; exact Nat.le_refl _
  have e2 : Nat.ble 1 q = true := by rw [Nat.ble_eq]; omega
  have e3 : Nat.ble (q + 1) 4294967296 = true := by rw [Nat.ble_eq]; omega
  have e4 : Nat.beq q q = true := Nat.beq_refl _
  simp only [Nat.zero_add, e1, e2, e3, e4]; rfl
theorem tOkG_ok {G : Nat → Nat → Value} {m q : Nat} (h : Gok q G) (hc : q ≤ 1000) (hm : q = m) : trusted [tOkG G m q] := by
  subst hm
  refine ⟨?_, trivial⟩
  show (Nat.ble (0 + q) q && (true && okM q G)) = true
  rw [h.ok hc, Nat.zero_add, Bool.and_eq_true, Nat.ble_eq]
  exact ⟨Nat.le_refl _, rfl⟩
theorem tr_app : ∀ {a b : List (Bool × Bool)}, trusted a → trusted b → trusted (a ++ b)
  | [], _, _, h => h
  | (x, y) :: r, _, h, k => ⟨h.1, tr_app h.2 k⟩
def Gn (G : Nat → Nat → Value) : Prop := ∀ e j, noBlk (G e j)
theorem Gn.sh {G : Nat → Nat → Value} (h : Gn G) : Gn (sh G) := fun e j => h (0 + e) j
theorem Gn.bb (fa fb : Nat → Int) : Gn (bbG fa fb) := fun e j => by cases j <;> simp [bbG, noBlk, blks]
theorem Gn.lst1 (x y : Int) : Gn (lstG 2 1 [.int .u16 x, .int .u8 y]) := fun e j => by
  show noBlk (([Value.int .u16 x, Value.int .u8 y][j]?).getD undef)
  match j with
  | 0 => simp [noBlk, blks]
  | 1 => simp [noBlk, blks]
  | j + 2 => simp [noBlk, blks, blksL, undef]
theorem Gn.join {m : Nat} {g h : Nat → Nat → Value} (hg : Gn g) (hh : Gn h) : Gn (joinG m g h) := fun e j => by
  simp only [joinG, vif_eq]
  cases Nat.blt e m with
  | true => exact hg e j
  | false => exact hh (e - m) j
theorem MWp.slots {P : Program} {Q : Value → Heap → Prop} {fn : Func} {k : List KI} {dst : Option Tmp} {base : Nat} {vals vals' : List Value} {H : Heap} (hv : VWL vals vals') (hn : vals.length ≤ 1000000)
    (h : MWp P (atSt fn k dst base vals' H) Q) : MWp P (atSt fn k dst base vals H) Q := by
  intro ρ w g gs R hrp hf hfs hR
  refine h ρ w g gs R hrp ⟨hf.fn, hf.k, hf.dst, hf.t.size, hf.t.small, fun i => ?_, hf.t.defers⟩ hfs hR
  have hvi := hf.t.val i
  show VR ρ (((trArgs vals' 0 .nil).get i).getD undef) _
  have hvi' : VR ρ (((trArgs vals 0 .nil).get i).getD undef) (g.a.tmps.getD i undef) := hvi
  have len : ∀ {l m : List Value}, VWL l m → m.length = l.length := by
    intro l
    induction l with
    | nil => intro m h; simp only [VWL] at h; subst h; rfl
    | cons v r ih => intro m h; obtain ⟨u, s, _, h2, rfl⟩ := h; simp [ih h2]
  have at_ : ∀ {l m : List Value} (i : Nat), VWL l m → VW ((l[i]?).getD undef) ((m[i]?).getD undef) := by
    intro l
    induction l with
    | nil => intro m i h; simp only [VWL] at h; subst h; exact VW.refl _
    | cons v r ih =>
      intro m i h; obtain ⟨u, s, h1, h2, rfl⟩ := h
      cases i with
      | zero => simpa using h1
      | succ i => simpa using ih i h2
  have hl := len hv
  rw [trArgs_get _ 0 .nil (by unfold big; omega)] at hvi' ⊢
  simp only [Nat.zero_le, true_and, Nat.zero_add, Nat.sub_zero] at hvi' ⊢
  by_cases hi : i < vals.length
  · rw [if_pos hi] at hvi'
    rw [if_pos (by omega)]
    have e : ∀ (l : List Value), i < l.length → ((l[i]?).getD undef) = l[i]?.getD undef := fun _ _ => rfl
    have hw := at_ i hv ρ _ (by simpa using hvi')
    simpa using hw
  · rw [if_neg hi] at hvi'
    rw [if_neg (by omega)]
    exact hvi'
theorem weak_mkO {os os' : List (Option LO)} (h : Each2 (fun a b => match a, b with | some x, some y => OW x y | none, none => True | _, _ => False) os os') (hl : os.length < big) : WeakH (mkH os) (mkH os') := by
  have hlen := h.length
  refine ⟨hlen.symm, rfl, fun i o ho => ?_⟩
  rw [mkH_get _ (by omega)] at ho
  rw [mkH_get _ hl]
  rcases Nat.lt_or_ge i os.length with hi | hi
  · rw [List.getElem?_eq_getElem (by omega)] at ho
    have := h.get i _ _ (List.getElem?_eq_getElem hi) (List.getElem?_eq_getElem (by omega))
    rw [List.getElem?_eq_getElem hi]
    simp only [Option.getD_some] at ho ⊢
    rw [ho] at this
    cases hx : os[i] with
    | none => rw [hx] at this; exact this.elim
    | some x => rw [hx] at this; exact ⟨x, rfl, this⟩
  · rw [List.getElem?_eq_none (by omega)] at ho; cases ho
end Go.Proofs.Ytpggoincnebfnaa
namespace Go.Proofs.Ytpggoincnebfnaa
open Go Go.Ly Go.RowKit
def Tail4 : Prop := ∀ (H : Heap) (p r b : Nat) (s : Js) (O V O2 V2 : List Nat) (st : Int), Opened H p r s O V O2 V2 → s.Ok → s.q = 0 → s.N ≤ 1000 → H.next ≤ 1000 → st ≤ 300 → MWp Try.prog (atSt Try.f4 k4z (some 68) b (v4z p r st) H) (fun u _ => u = .bool true)
theorem gL4 : ctxH.fn.get 4 = some Try.f4 := by kernel_rfl
theorem r4_N (s : Sv) (n k c q : Nat) (f fa fb fc : Nat → Int) (G : Nat → Nat → Value) (st i : Int) : headAt [1, 2, 3, 6, 7, 8] [0, 1, 2, 3, 6] rd4 (Ly.run ctxH 20 [(0, true), (0, true), (0, true), (0, true)] (mkSt Try.f4 k4 (some 17) 3 (v4 c st i (sls 4 q)) (os4 s nilS anyV (ints .u8 f n) (bytes2 fa fb k) c fc (rowG G q)))) = (true, tI4 i c ++ [tF4 q], true, (Try.f4, k4, some 17, 3), v4 c st (IntKind.i64.wrap (i + 1)) (sls 4 (q + 1)), os4 s nilS anyV (ints .u8 f n) (bytes2 fa fb k) c fc (rowG (J4 s fc q G i) (q + 1))) := by kernel_rfl
theorem f4_N (s : Sv) (n k c : Nat) (f fa fb fc : Nat → Int) (st : Int) : headAt [1, 2, 3, 6, 7, 8] [0, 1, 2, 3, 6] rd4 (Ly.run ctxH 20 [(0, true), (0, true), (0, true)] (mkSt Try.f4 k4 (some 17) 3 (v4 c st 0 (.slice (some ⟨1, 0, some 0⟩) 0 0)) (os4 s nilS anyV (ints .u8 f n) (bytes2 fa fb k) c fc (.cells [] 33)))) = (true, tI4 0 c, true, (Try.f4, k4, some 17, 3), v4 c st (IntKind.i64.wrap (0 + 1)) (sls 4 1), os4 s nilS anyV (ints .u8 f n) (bytes2 fa fb k) c fc (rowG (J4 s fc 0 (bbG fa fb) 0) 1)) := by kernel_rfl
set_option maxRecDepth 100000 in
theorem x4_N (s : Sv) (n k c q : Nat) (f fa fb fc : Nat → Int) (G : Nat → Nat → Value) (st i : Int) : haltH [2, 9, 10, 79, 80] [10, 9, 15, 14, 13] 16 rd4 (Ly.run ctxH 9000 [(0, false), (0, false), (1, true), (22, true)] (mkSt Try.f4 k4 (some 17) 3 (v4 c st i (sls 4 q)) (os4 s nilS anyV (ints .u8 f n) (bytes2 fa fb k) c fc (rowG G q)))) =
  (true, [tE4 i c, t6 q, tOkG (sh G) q q, tOkG (sh G) q q], true, (Try.f4, k4z, some 68, 3), v4z 10 15 st, (true, true, true), [some (.cells (cellsPb 9 0 (mOf s) nilV nilV) 60), some (memL (gs (gm (sh G) q))), some (.cells (cellsRb 14 13 (mOf s) nilV nilV) 56), some (memL (gm (sh G) q)), some (regsR (mOf s))]) := by kernel_rfl
theorem loop4_N (ht : Tail4) (s : Sv) (n k c : Nat) (f fa fb fc : Nat → Int) (st : Int) (hs : s.Ok) (hst : st ≤ 300) (hc : ∀ e, e < c → B8 (fc e)) (hc2 : c ≤ 200) : ∀ (d q : Nat) (G : Nat → Nat → Value) (i : Int), Gok q G → Gn G → 1 ≤ q → q + d ≤ 600 → 0 ≤ i → i + d = c →
    MWp Try.prog (mkSt Try.f4 k4 (some 17) 3 (v4 c st i (sls 4 q)) (os4 s nilS anyV (ints .u8 f n) (bytes2 fa fb k) c fc (rowG G q))) (fun u _ => u = .bool true)
  | 0, q, G, i, hG0, hn0, hq, hqd, hi0, hi => by
    have hi : (c : Int) ≤ i := by omega
    have hG : Gok q (sh G) := hG0.shift
    refine MWp.haltH ctxH_ok _ _ _ _ (x4_N s n k c q f fa fb fc G st i) (tr_cons (tE4_ok hi) (tr_cons (t6_ok (by omega)) (tr_cons (tOkG_ok hG (by omega) rfl) (tr_cons (tOkG_ok hG (by omega) rfl) trivial)))) ?_
    intro H hnx hl hc hos
    simp only [List.map_cons, List.map_nil, List.cons.injEq, and_true] at hos
    obtain ⟨h1, h2, h3, h4, h5⟩ := hos
    rw [gs_eq] at h2
    exact ht H 10 15 3 (jOf s (gm (sh G) q) 0 f) _ _ _ _ st (opened_N hl hc h1 h2 h3 h4 h5 (by decide)) (jOf_ok hs hG.mem (fun e he => by omega)) rfl (by show 0 ≤ 1000; omega) (by omega) hst
  | d + 1, q, G, i, hG0, hn0, hq, hqd, hi0, hi => by
    have hw : IntKind.i64.wrap (i + 1) = i + 1 := by rw [IntKind.wrap_i64]; omega
    have hb : Gok 1 (lstG 2 1 (b4 s fc i)) := Gok.cons (by simp) (hc (ix i) (by unfold ix; omega)) Gok.nil
    have hJ : Gn (J4 s fc q G i) := hn0.sh.join (Gn.lst1 _ _)
    refine MWp.head ctxH_ok _ _ _ _ (r4_N s n k c q f fa fb fc G st i) (tr_app (tI4_ok hi0 (by omega)) (tF4_ok hq (by omega))) ?_ ?_
    · intro o ho x hx
      simp only [os4, List.mem_cons, List.not_mem_nil, or_false] at ho
      rcases ho with rfl | rfl | rfl | rfl | rfl <;> (simp only [Option.some.injEq] at hx; subst hx)
      · intro e j; simp [noBlk, blks]
      · intro e j; cases j <;> simp [noBlk, blks]
      · intro e j; simp [noBlk, blks]
      · trivial
      · exact hJ
    · rw [hw]
      exact loop4_N ht s n k c f fa fb fc st hs hst hc hc2 d (q + 1) (J4 s fc q G i) (i + 1) (hG0.shift.join hb) hJ (by omega) (by omega) (by omega) (by omega)
theorem r4_E (s : Sv) (n k c q : Nat) (f fa fb fc : Nat → Int) (G : Nat → Nat → Value) (st i : Int) : headAt [1, 2, 3, 6, 7, 8] [0, 1, 2, 3, 6] rd4 (Ly.run ctxH 20 [(0, true), (0, true), (0, true), (0, true)] (mkSt Try.f4 k4 (some 17) 3 (v4 c st i (sls 4 q)) (os4 s (sl 0 0) anyV (ints .u8 f 0) (bytes2 fa fb k) c fc (rowG G q)))) = (true, tI4 i c ++ [tF4 q], true, (Try.f4, k4, some 17, 3), v4 c st (IntKind.i64.wrap (i + 1)) (sls 4 (q + 1)), os4 s (sl 0 0) anyV (ints .u8 f 0) (bytes2 fa fb k) c fc (rowG (J4 s fc q G i) (q + 1))) := by kernel_rfl
theorem f4_E (s : Sv) (n k c : Nat) (f fa fb fc : Nat → Int) (st : Int) : headAt [1, 2, 3, 6, 7, 8] [0, 1, 2, 3, 6] rd4 (Ly.run ctxH 20 [(0, true), (0, true), (0, true)] (mkSt Try.f4 k4 (some 17) 3 (v4 c st 0 (.slice (some ⟨1, 0, some 0⟩) 0 0)) (os4 s (sl 0 0) anyV (ints .u8 f 0) (bytes2 fa fb k) c fc (.cells [] 33)))) = (true, tI4 0 c, true, (Try.f4, k4, some 17, 3), v4 c st (IntKind.i64.wrap (0 + 1)) (sls 4 1), os4 s (sl 0 0) anyV (ints .u8 f 0) (bytes2 fa fb k) c fc (rowG (J4 s fc 0 (bbG fa fb) 0) 1)) := by kernel_rfl
set_option maxRecDepth 100000 in
theorem x4_E (s : Sv) (n k c q : Nat) (f fa fb fc : Nat → Int) (G : Nat → Nat → Value) (st i : Int) : haltH [2, 9, 10, 79, 80] [11, 10, 16, 15, 14] 17 rd4 (Ly.run ctxH 9000 [(0, false), (0, false), (1, true), (25, true)] (mkSt Try.f4 k4 (some 17) 3 (v4 c st i (sls 4 q)) (os4 s (sl 0 0) anyV (ints .u8 f 0) (bytes2 fa fb k) c fc (rowG G q)))) =
  (true, [tE4 i c, t6 q, tOkG (sh G) q q, tOkG (sh G) q q], true, (Try.f4, k4z, some 68, 3), v4z 11 16 st, (true, true, true), [some (.cells (cellsPb 10 0 (mOf s) (.slice (some ⟨8, 0, none⟩) 0 0) nilV) 60), some (memL (gs (gm (sh G) q))), some (.cells (cellsRb 15 14 (mOf s) (sl 0 0) nilV) 56), some (memL (gm (sh G) q)), some (regsR (mOf s))]) := by kernel_rfl
theorem loop4_E (ht : Tail4) (s : Sv) (n k c : Nat) (f fa fb fc : Nat → Int) (st : Int) (hs : s.Ok) (hst : st ≤ 300) (hc : ∀ e, e < c → B8 (fc e)) (hc2 : c ≤ 200) : ∀ (d q : Nat) (G : Nat → Nat → Value) (i : Int), Gok q G → Gn G → 1 ≤ q → q + d ≤ 600 → 0 ≤ i → i + d = c →
    MWp Try.prog (mkSt Try.f4 k4 (some 17) 3 (v4 c st i (sls 4 q)) (os4 s (sl 0 0) anyV (ints .u8 f 0) (bytes2 fa fb k) c fc (rowG G q))) (fun u _ => u = .bool true)
  | 0, q, G, i, hG0, hn0, hq, hqd, hi0, hi => by
    have hi : (c : Int) ≤ i := by omega
    have hG : Gok q (sh G) := hG0.shift
    refine MWp.haltH ctxH_ok _ _ _ _ (x4_E s n k c q f fa fb fc G st i) (tr_cons (tE4_ok hi) (tr_cons (t6_ok (by omega)) (tr_cons (tOkG_ok hG (by omega) rfl) (tr_cons (tOkG_ok hG (by omega) rfl) trivial)))) ?_
    intro H hnx hl hc hos
    simp only [List.map_cons, List.map_nil, List.cons.injEq, and_true] at hos
    obtain ⟨h1, h2, h3, h4, h5⟩ := hos
    rw [gs_eq] at h2
    exact ht H 11 16 3 (jOf s (gm (sh G) q) 0 f) _ _ _ _ st (opened_E hl hc h1 h2 h3 h4 h5 (by decide)) (jOf_ok hs hG.mem (fun e he => by omega)) rfl (by show 0 ≤ 1000; omega) (by omega) hst
  | d + 1, q, G, i, hG0, hn0, hq, hqd, hi0, hi => by
    have hw : IntKind.i64.wrap (i + 1) = i + 1 := by rw [IntKind.wrap_i64]; omega
    have hb : Gok 1 (lstG 2 1 (b4 s fc i)) := Gok.cons (by simp) (hc (ix i) (by unfold ix; omega)) Gok.nil
    have hJ : Gn (J4 s fc q G i) := hn0.sh.join (Gn.lst1 _ _)
    refine MWp.head ctxH_ok _ _ _ _ (r4_E s n k c q f fa fb fc G st i) (tr_app (tI4_ok hi0 (by omega)) (tF4_ok hq (by omega))) ?_ ?_
    · intro o ho x hx
      simp only [os4, List.mem_cons, List.not_mem_nil, or_false] at ho
      rcases ho with rfl | rfl | rfl | rfl | rfl <;> (simp only [Option.some.injEq] at hx; subst hx)
      · intro e j; simp [noBlk, blks]
      · intro e j; cases j <;> simp [noBlk, blks]
      · intro e j; simp [noBlk, blks]
      · trivial
      · exact hJ
    · rw [hw]
      exact loop4_E ht s n k c f fa fb fc st hs hst hc hc2 d (q + 1) (J4 s fc q G i) (i + 1) (hG0.shift.join hb) hJ (by omega) (by omega) (by omega) (by omega)
theorem r4_R (s : Sv) (n k c q : Nat) (f fa fb fc : Nat → Int) (G : Nat → Nat → Value) (st i : Int) : headAt [1, 2, 3, 6, 7, 8] [0, 1, 2, 3, 6] rd4 (Ly.run ctxH 20 [(0, true), (0, true), (0, true), (0, true)] (mkSt Try.f4 k4 (some 17) 3 (v4 c st i (sls 4 q)) (os4 s (sl 0 (n + 1)) anyV (ints .u8 f (n + 1)) (bytes2 fa fb k) c fc (rowG G q)))) = (true, tI4 i c ++ [tF4 q], true, (Try.f4, k4, some 17, 3), v4 c st (IntKind.i64.wrap (i + 1)) (sls 4 (q + 1)), os4 s (sl 0 (n + 1)) anyV (ints .u8 f (n + 1)) (bytes2 fa fb k) c fc (rowG (J4 s fc q G i) (q + 1))) := by kernel_rfl
theorem f4_R (s : Sv) (n k c : Nat) (f fa fb fc : Nat → Int) (st : Int) : headAt [1, 2, 3, 6, 7, 8] [0, 1, 2, 3, 6] rd4 (Ly.run ctxH 20 [(0, true), (0, true), (0, true)] (mkSt Try.f4 k4 (some 17) 3 (v4 c st 0 (.slice (some ⟨1, 0, some 0⟩) 0 0)) (os4 s (sl 0 (n + 1)) anyV (ints .u8 f (n + 1)) (bytes2 fa fb k) c fc (.cells [] 33)))) = (true, tI4 0 c, true, (Try.f4, k4, some 17, 3), v4 c st (IntKind.i64.wrap (0 + 1)) (sls 4 1), os4 s (sl 0 (n + 1)) anyV (ints .u8 f (n + 1)) (bytes2 fa fb k) c fc (rowG (J4 s fc 0 (bbG fa fb) 0) 1)) := by kernel_rfl
set_option maxRecDepth 100000 in
theorem x4_R (s : Sv) (n k c q : Nat) (f fa fb fc : Nat → Int) (G : Nat → Nat → Value) (st i : Int) : haltH [2, 9, 10, 79, 80] [12, 11, 17, 16, 15, 9, 0] 18 rd4 (Ly.run ctxH 9000 [(0, false), (0, false), (1, true), (11, false), (1, true), (11, true)] (mkSt Try.f4 k4 (some 17) 3 (v4 c st i (sls 4 q)) (os4 s (sl 0 (n + 1)) anyV (ints .u8 f (n + 1)) (bytes2 fa fb k) c fc (rowG G q)))) =
  (true, [tE4 i c, t6 q, tOkG (sh G) q q, tMx n, tR1 n, tOkG (sh G) q q], true, (Try.f4, k4z, some 68, 3), v4z 12 17 st, (true, true, true), [some (.cells (cellsPb 11 0 (mOf s) (inV 9 0 (0 + (n + 1))) nilV) 60), some (memL (gs (gm (sh G) q))), some (.cells (cellsRb 16 15 (mOf s) (inV 0 0 (n + 1)) nilV) 56), some (memL (gm (sh G) q)), some (regsR (mOf s)), some (rowP (fun e => f (0 + e)) (n + 1)), some (rowR f (n + 1))]) := by kernel_rfl
theorem loop4_R (ht : Tail4) (s : Sv) (n k c : Nat) (f fa fb fc : Nat → Int) (st : Int) (hs : s.Ok) (hn : n + 1 ≤ 256) (hf : ∀ e, e < n + 1 → B8 (f e)) (hst : st ≤ 300) (hc : ∀ e, e < c → B8 (fc e)) (hc2 : c ≤ 200) : ∀ (d q : Nat) (G : Nat → Nat → Value) (i : Int), Gok q G → Gn G → 1 ≤ q → q + d ≤ 600 → 0 ≤ i → i + d = c →
    MWp Try.prog (mkSt Try.f4 k4 (some 17) 3 (v4 c st i (sls 4 q)) (os4 s (sl 0 (n + 1)) anyV (ints .u8 f (n + 1)) (bytes2 fa fb k) c fc (rowG G q))) (fun u _ => u = .bool true)
  | 0, q, G, i, hG0, hn0, hq, hqd, hi0, hi => by
    have hi : (c : Int) ≤ i := by omega
    have hG : Gok q (sh G) := hG0.shift
    refine MWp.haltH ctxH_ok _ _ _ _ (x4_R s n k c q f fa fb fc G st i) (tr_cons (tE4_ok hi) (tr_cons (t6_ok (by omega)) (tr_cons (tOkG_ok hG (by omega) rfl) (tr_cons (tMx_ok hn) (tr_cons (tR1_ok (by omega)) (tr_cons (tOkG_ok hG (by omega) rfl) trivial)))))) ?_
    intro H hnx hl hc hos
    simp only [List.map_cons, List.map_nil, List.cons.injEq, and_true] at hos
    obtain ⟨h1, h2, h3, h4, h5, h6, h7⟩ := hos
    rw [gs_eq] at h2
    have ez : (fun e => f (0 + e)) = f := by funext e; rw [Nat.zero_add]
    rw [ez] at h6
    rw [Nat.zero_add] at h1
    exact ht H 12 17 3 (jOf s (gm (sh G) q) (n + 1) f) _ _ _ _ st (opened_R hl hc h1 h2 h3 h4 h5 h6 h7 (by decide)) (jOf_ok hs hG.mem hf) rfl (by show (n + 1) ≤ 1000; omega) (by omega) hst
  | d + 1, q, G, i, hG0, hn0, hq, hqd, hi0, hi => by
    have hw : IntKind.i64.wrap (i + 1) = i + 1 := by rw [IntKind.wrap_i64]; omega
    have hb : Gok 1 (lstG 2 1 (b4 s fc i)) := Gok.cons (by simp) (hc (ix i) (by unfold ix; omega)) Gok.nil
    have hJ : Gn (J4 s fc q G i) := hn0.sh.join (Gn.lst1 _ _)
    refine MWp.head ctxH_ok _ _ _ _ (r4_R s n k c q f fa fb fc G st i) (tr_app (tI4_ok hi0 (by omega)) (tF4_ok hq (by omega))) ?_ ?_
    · intro o ho x hx
      simp only [os4, List.mem_cons, List.not_mem_nil, or_false] at ho
      rcases ho with rfl | rfl | rfl | rfl | rfl <;> (simp only [Option.some.injEq] at hx; subst hx)
      · intro e j; simp [noBlk, blks]
      · intro e j; cases j <;> simp [noBlk, blks]
      · intro e j; simp [noBlk, blks]
      · trivial
      · exact hJ
    · rw [hw]
      exact loop4_R ht s n k c f fa fb fc st hs hn hf hst hc hc2 d (q + 1) (J4 s fc q G i) (i + 1) (hG0.shift.join hb) hJ (by omega) (by omega) (by omega) (by omega)
end Go.Proofs.Ytpggoincnebfnaa
namespace Go.Proofs.Ytpggoincnebfnaa
open Go Go.Ly Go.RowKit
def KVW : List (Nat × Value) → List (Nat × Value) → Prop
  | [], [] => True
  | (a, v) :: r, (b, u) :: s => a = b ∧ VW v u ∧ KVW r s
  | _, _ => False
theorem KVW.look : ∀ {l m : List (Nat × Value)}, KVW l m → ∀ i, VW (lookS l i) (lookS m i)
  | [], [], _, i => VW.refl _
  | (a, v) :: r, (b, u) :: s, h, i => by
    obtain ⟨rfl, h1, h2⟩ := h
    simp only [lookS]
    cases Nat.beq a i with
    | true => exact h1
    | false => exact KVW.look h2 i
  | [], _ :: _, h, _ => h.elim
  | _ :: _, [], h, _ => h.elim
theorem VWL.map {f g : Nat → Value} : ∀ (l : List Nat), (∀ i, VW (f i) (g i)) → VWL (l.map f) (l.map g)
  | [], _ => rfl
  | a :: r, h => ⟨g a, _, h a, VWL.map r h, rfl⟩
theorem KVW.slots {n : Nat} {l m : List (Nat × Value)} (h : KVW l m) : VWL (slots n l) (slots n m) := VWL.map _ h.look
theorem VW.none0 (a b : Addr) : VW (.slice (some a) 0 0) (.slice (some b) 0 0) := by
  intro ρ v' h
  simp only [VR] at h ⊢
  obtain ⟨a', c', rfl, h1, h2, h3⟩ := h
  exact ⟨a', c', rfl, h1, h2, fun h => absurd rfl h⟩
theorem v4_weak (c : Nat) (st : Int) : VWL (v4 c st 0 (.slice (some ⟨4, 0, none⟩) 0 0)) (v4 c st 0 (.slice (some ⟨1, 0, some 0⟩) 0 0)) :=
  KVW.slots ⟨rfl, VW.refl _, rfl, VW.refl _, rfl, VW.refl _, rfl, VW.refl _, rfl, VW.none0 _ _, rfl, VW.refl _, trivial⟩
theorem sc4_weak (s : Sv) (iv mv : Value) : OW (sc4 s iv mv) (sc4 s iv anyV) := by
  unfold sc4
  refine OW.cells ?_
  exact ⟨_, _, VW.refl _, ⟨_, _, VW.refl _, ⟨_, _, VW.refl _, ⟨_, _, VW.refl _, ⟨_, _, VW.refl _, ⟨_, _, VW.refl _, ⟨_, _, VW.refl _, ⟨_, _, VW.refl _, ⟨_, _, VW.refl _, ⟨_, _, VW.refl _, ⟨_, _, VW.refl _, ⟨_, _, VW.refl _, ⟨_, _, VW.refl _, ⟨_, _, VW.refl _, ⟨_, _, VW.refl _, ⟨_, _, VW.refl _, ⟨_, _, VW.refl _, ⟨_, _, VW.any _, rfl, rfl⟩, rfl⟩, rfl⟩, rfl⟩, rfl⟩, rfl⟩, rfl⟩, rfl⟩, rfl⟩, rfl⟩, rfl⟩, rfl⟩, rfl⟩, rfl⟩, rfl⟩, rfl⟩, rfl⟩, rfl⟩
theorem os4_weak (s : Sv) (iv mv : Value) (I M : LO) (c : Nat) (fc : Nat → Int) (R : LO) : WeakH (mkH (os4 s iv mv I M c fc R)) (mkH (os4 s iv anyV I M c fc R)) :=
  weak_mkO ⟨OW.refl _, OW.refl _, OW.refl _, sc4_weak s iv mv, OW.refl _, trivial⟩ (by show 5 < big; unfold big; omega)
theorem plain4 {s : Sv} {iv mv : Value} {f fa fb fc : Nat → Int} {n k c : Nat} {R : LO} (h : plainO R) : ∀ o ∈ os4 s iv mv (ints .u8 f n) (bytes2 fa fb k) c fc R, ∀ x, o = some x → plainO x := by
  intro o ho x hx
  simp only [os4, List.mem_cons, List.not_mem_nil, or_false] at ho
  rcases ho with rfl | rfl | rfl | rfl | rfl <;> (simp only [Option.some.injEq] at hx; subst hx)
  · intro e j; simp [noBlk, blks]
  · intro e j; cases j <;> simp [noBlk, blks]
  · intro e j; simp [noBlk, blks]
  · trivial
  · exact h
set_option maxRecDepth 100000 in
theorem e4_NNN (s : Sv) (n k c : Nat) (f fa fb fc : Nat → Int) (st : Int) : haltH [2, 9, 10, 79, 80] [11, 10, 16, 15, 14] 17 rd4 (Ly.run ctxH 9000 [(12, true)] (Ly.start Try.f4 [svV s nilS nilS, nilS, .int .i64 st] (mkH [some (ints .u8 f n), some (bytes2 fa fb k), some (ints .u8 fc c)]))) =
  (true, [tS st], true, (Try.f4, k4z, some 68, 3), v4z 11 16 st, (true, true, true), [some (.cells (cellsPb 10 0 (mOf s) nilV nilV) 60), some (memL (gs (gm (GA [] 0) 0))), some (.cells (cellsRb 15 14 (mOf s) nilV nilV) 56), some (memL (gm (GA [] 0) 0)), some (regsR (mOf s))]) := by kernel_rfl
theorem g4_NNN (ht : Tail4) (s : Sv) (n k c : Nat) (f fa fb fc : Nat → Int) (st : Int) (hs : s.Ok) (hst : st ≤ 300) : LCalls Try.prog 4 [svV s nilS nilS, nilS, .int .i64 st] (mkH [some (ints .u8 f n), some (bytes2 fa fb k), some (ints .u8 fc c)]) (fun u _ => u = .bool true) := by
  have hG : Gok 0 (GA [] 0) := Gok.nil
  refine LCalls_of ctxH_ok gL4 (by kernel_rfl) (MWp.haltH ctxH_ok _ _ _ _ (e4_NNN s n k c f fa fb fc st) (tr_cons (tS_ok hst) trivial) ?_)
  intro H hnx hl hc hos
  simp only [List.map_cons, List.map_nil, List.cons.injEq, and_true] at hos
  obtain ⟨h1, h2, h3, h4, h5⟩ := hos
  rw [gs_eq] at h2
  exact ht H 11 16 3 (jOf s (gm (GA [] 0) 0) 0 f) _ _ _ _ st (opened_N hl hc h1 h2 h3 h4 h5 (by decide)) (jOf_ok hs hG.mem (fun e he => by omega)) rfl (by show 0 ≤ 1000; omega) (by omega) hst
set_option maxRecDepth 100000 in
theorem e4_NNC (s : Sv) (n k c : Nat) (f fa fb fc : Nat → Int) (st : Int) : haltH [2, 9, 10, 79, 80] [11, 10, 16, 15, 14] 17 rd4 (Ly.run ctxH 9000 [(9, true), (2, true), (9, false)] (Ly.start Try.f4 [svV s nilS nilS, sl 2 c, .int .i64 st] (mkH [some (ints .u8 f n), some (bytes2 fa fb k), some (ints .u8 fc c)]))) =
  (true, [tC c, tS st, tE4 0 c], true, (Try.f4, k4z, some 68, 3), v4z 11 16 st, (true, true, true), [some (.cells (cellsPb 10 0 (mOf s) nilV nilV) 60), some (memL (gs (gm (GA [] 0) 0))), some (.cells (cellsRb 15 14 (mOf s) nilV nilV) 56), some (memL (gm (GA [] 0) 0)), some (regsR (mOf s))]) := by kernel_rfl
theorem g4_NNC (ht : Tail4) (s : Sv) (n k c : Nat) (f fa fb fc : Nat → Int) (st : Int) (hs : s.Ok) (hst : st ≤ 300) (hc : c ≤ 200) (hc0 : c = 0) : LCalls Try.prog 4 [svV s nilS nilS, sl 2 c, .int .i64 st] (mkH [some (ints .u8 f n), some (bytes2 fa fb k), some (ints .u8 fc c)]) (fun u _ => u = .bool true) := by
  have hG : Gok 0 (GA [] 0) := Gok.nil
  refine LCalls_of ctxH_ok gL4 (by kernel_rfl) (MWp.haltH ctxH_ok _ _ _ _ (e4_NNC s n k c f fa fb fc st) (tr_cons (tC_ok hc) (tr_cons (tS_ok hst) (tr_cons (tE4_ok (by omega)) trivial))) ?_)
  intro H hnx hl hc hos
  simp only [List.map_cons, List.map_nil, List.cons.injEq, and_true] at hos
  obtain ⟨h1, h2, h3, h4, h5⟩ := hos
  rw [gs_eq] at h2
  exact ht H 11 16 3 (jOf s (gm (GA [] 0) 0) 0 f) _ _ _ _ st (opened_N hl hc h1 h2 h3 h4 h5 (by decide)) (jOf_ok hs hG.mem (fun e he => by omega)) rfl (by show 0 ≤ 1000; omega) (by omega) hst
theorem h4_NN (s : Sv) (n k c : Nat) (f fa fb fc : Nat → Int) (st : Int) : headAt [1, 2, 3, 6, 7, 8] [0, 1, 2, 3, 5] rd4 (Ly.run ctxH 73 [(9, true), (2, true)] (Ly.start Try.f4 [svV s nilS nilS, sl 2 c, .int .i64 st] (mkH [some (ints .u8 f n), some (bytes2 fa fb k), some (ints .u8 fc c)]))) = (true, [tC c, tS st], true, (Try.f4, k4, some 17, 3), v4 c st 0 (.slice (some ⟨4, 0, none⟩) 0 0), os4 s nilS nilS (ints .u8 f n) (bytes2 fa fb k) c fc (.cells [] 33)) := by kernel_rfl
theorem l4_NN (ht : Tail4) (s : Sv) (n k c : Nat) (f fa fb fc : Nat → Int) (st : Int) (hs : s.Ok) (hst : st ≤ 300) (hc : c ≤ 200) (hfc : ∀ e, e < c → B8 (fc e)) : LCalls Try.prog 4 [svV s nilS nilS, sl 2 c, .int .i64 st] (mkH [some (ints .u8 f n), some (bytes2 fa fb k), some (ints .u8 fc c)]) (fun u _ => u = .bool true) := by
  rcases c with _ | c
  · exact g4_NNC ht s n k 0 f fa fb fc st hs hst hc rfl
  · refine LCalls_of ctxH_ok gL4 (by kernel_rfl) (MWp.head ctxH_ok _ _ _ _ (h4_NN s n k (c + 1) f fa fb fc st) (tr_cons (tC_ok hc) (tr_cons (tS_ok hst) trivial)) (plain4 trivial) ?_)
    refine MWp.weak (os4_weak _ _ _ _ _ _ _ _) ?_
    refine MWp.slots (v4_weak (c + 1) st) (by show (slots 106 _).length ≤ 1000000; simp [slots]) ?_
    have hJ : Gn (J4 s fc 0 (bbG fa fb) 0) := (Gn.bb fa fb).sh.join (Gn.lst1 _ _)
    refine MWp.head ctxH_ok _ _ _ _ (f4_N s n k (c + 1) f fa fb fc st) (tI4_ok (by omega) (by omega)) (plain4 hJ) ?_
    have hw : IntKind.i64.wrap (0 + 1) = 1 := by rw [IntKind.wrap_i64]; rfl
    rw [hw]
    have hb1 : Gok 1 (lstG 2 1 (b4 s fc 0)) := Gok.cons (by simp) (hfc (ix 0) (by unfold ix; omega)) Gok.nil
    exact loop4_N ht s n k (c + 1) f fa fb fc st hs hst hfc hc c 1 (J4 s fc 0 (bbG fa fb) 0) 1 (by have h0 : Gok 0 (sh (bbG fa fb)) := Gok.nil; have := h0.join hb1; rwa [Nat.zero_add] at this) hJ (by omega) (by omega) (by omega) (by omega)
set_option maxRecDepth 100000 in
theorem e4_NEN (s : Sv) (n k c : Nat) (f fa fb fc : Nat → Int) (st : Int) : haltH [2, 9, 10, 79, 80] [11, 10, 16, 15, 14] 17 rd4 (Ly.run ctxH 9000 [(12, true)] (Ly.start Try.f4 [svV s nilS (sls 1 0), nilS, .int .i64 st] (mkH [some (ints .u8 f n), some (bytes2 fa fb 0), some (ints .u8 fc c)]))) =
  (true, [tS st], true, (Try.f4, k4z, some 68, 3), v4z 11 16 st, (true, true, true), [some (.cells (cellsPb 10 0 (mOf s) nilV nilV) 60), some (memL (gs (gm (GA [] 0) 0))), some (.cells (cellsRb 15 14 (mOf s) nilV nilV) 56), some (memL (gm (GA [] 0) 0)), some (regsR (mOf s))]) := by kernel_rfl
theorem g4_NEN (ht : Tail4) (s : Sv) (n k c : Nat) (f fa fb fc : Nat → Int) (st : Int) (hs : s.Ok) (hst : st ≤ 300) : LCalls Try.prog 4 [svV s nilS (sls 1 0), nilS, .int .i64 st] (mkH [some (ints .u8 f n), some (bytes2 fa fb 0), some (ints .u8 fc c)]) (fun u _ => u = .bool true) := by
  have hG : Gok 0 (GA [] 0) := Gok.nil
  refine LCalls_of ctxH_ok gL4 (by kernel_rfl) (MWp.haltH ctxH_ok _ _ _ _ (e4_NEN s n k c f fa fb fc st) (tr_cons (tS_ok hst) trivial) ?_)
  intro H hnx hl hc hos
  simp only [List.map_cons, List.map_nil, List.cons.injEq, and_true] at hos
  obtain ⟨h1, h2, h3, h4, h5⟩ := hos
  rw [gs_eq] at h2
  exact ht H 11 16 3 (jOf s (gm (GA [] 0) 0) 0 f) _ _ _ _ st (opened_N hl hc h1 h2 h3 h4 h5 (by decide)) (jOf_ok hs hG.mem (fun e he => by omega)) rfl (by show 0 ≤ 1000; omega) (by omega) hst
set_option maxRecDepth 100000 in
theorem e4_NEC (s : Sv) (n k c : Nat) (f fa fb fc : Nat → Int) (st : Int) : haltH [2, 9, 10, 79, 80] [11, 10, 16, 15, 14] 17 rd4 (Ly.run ctxH 9000 [(9, true), (2, true), (9, false)] (Ly.start Try.f4 [svV s nilS (sls 1 0), sl 2 c, .int .i64 st] (mkH [some (ints .u8 f n), some (bytes2 fa fb 0), some (ints .u8 fc c)]))) =
  (true, [tC c, tS st, tE4 0 c], true, (Try.f4, k4z, some 68, 3), v4z 11 16 st, (true, true, true), [some (.cells (cellsPb 10 0 (mOf s) nilV nilV) 60), some (memL (gs (gm (GA [] 0) 0))), some (.cells (cellsRb 15 14 (mOf s) nilV nilV) 56), some (memL (gm (GA [] 0) 0)), some (regsR (mOf s))]) := by kernel_rfl
theorem g4_NEC (ht : Tail4) (s : Sv) (n k c : Nat) (f fa fb fc : Nat → Int) (st : Int) (hs : s.Ok) (hst : st ≤ 300) (hc : c ≤ 200) (hc0 : c = 0) : LCalls Try.prog 4 [svV s nilS (sls 1 0), sl 2 c, .int .i64 st] (mkH [some (ints .u8 f n), some (bytes2 fa fb 0), some (ints .u8 fc c)]) (fun u _ => u = .bool true) := by
  have hG : Gok 0 (GA [] 0) := Gok.nil
  refine LCalls_of ctxH_ok gL4 (by kernel_rfl) (MWp.haltH ctxH_ok _ _ _ _ (e4_NEC s n k c f fa fb fc st) (tr_cons (tC_ok hc) (tr_cons (tS_ok hst) (tr_cons (tE4_ok (by omega)) trivial))) ?_)
  intro H hnx hl hc hos
  simp only [List.map_cons, List.map_nil, List.cons.injEq, and_true] at hos
  obtain ⟨h1, h2, h3, h4, h5⟩ := hos
  rw [gs_eq] at h2
  exact ht H 11 16 3 (jOf s (gm (GA [] 0) 0) 0 f) _ _ _ _ st (opened_N hl hc h1 h2 h3 h4 h5 (by decide)) (jOf_ok hs hG.mem (fun e he => by omega)) rfl (by show 0 ≤ 1000; omega) (by omega) hst
theorem h4_NE (s : Sv) (n k c : Nat) (f fa fb fc : Nat → Int) (st : Int) : headAt [1, 2, 3, 6, 7, 8] [0, 1, 2, 3, 5] rd4 (Ly.run ctxH 73 [(9, true), (2, true)] (Ly.start Try.f4 [svV s nilS (sls 1 0), sl 2 c, .int .i64 st] (mkH [some (ints .u8 f n), some (bytes2 fa fb 0), some (ints .u8 fc c)]))) = (true, [tC c, tS st], true, (Try.f4, k4, some 17, 3), v4 c st 0 (.slice (some ⟨4, 0, none⟩) 0 0), os4 s nilS (sls 1 0) (ints .u8 f n) (bytes2 fa fb 0) c fc (.cells [] 33)) := by kernel_rfl
theorem l4_NE (ht : Tail4) (s : Sv) (n k c : Nat) (f fa fb fc : Nat → Int) (st : Int) (hs : s.Ok) (hst : st ≤ 300) (hc : c ≤ 200) (hfc : ∀ e, e < c → B8 (fc e)) : LCalls Try.prog 4 [svV s nilS (sls 1 0), sl 2 c, .int .i64 st] (mkH [some (ints .u8 f n), some (bytes2 fa fb 0), some (ints .u8 fc c)]) (fun u _ => u = .bool true) := by
  rcases c with _ | c
  · exact g4_NEC ht s n k 0 f fa fb fc st hs hst hc rfl
  · refine LCalls_of ctxH_ok gL4 (by kernel_rfl) (MWp.head ctxH_ok _ _ _ _ (h4_NE s n k (c + 1) f fa fb fc st) (tr_cons (tC_ok hc) (tr_cons (tS_ok hst) trivial)) (plain4 trivial) ?_)
    refine MWp.weak (os4_weak _ _ _ _ _ _ _ _) ?_
    refine MWp.slots (v4_weak (c + 1) st) (by show (slots 106 _).length ≤ 1000000; simp [slots]) ?_
    have hJ : Gn (J4 s fc 0 (bbG fa fb) 0) := (Gn.bb fa fb).sh.join (Gn.lst1 _ _)
    refine MWp.head ctxH_ok _ _ _ _ (f4_N s n 0 (c + 1) f fa fb fc st) (tI4_ok (by omega) (by omega)) (plain4 hJ) ?_
    have hw : IntKind.i64.wrap (0 + 1) = 1 := by rw [IntKind.wrap_i64]; rfl
    rw [hw]
    have hb1 : Gok 1 (lstG 2 1 (b4 s fc 0)) := Gok.cons (by simp) (hfc (ix 0) (by unfold ix; omega)) Gok.nil
    exact loop4_N ht s n 0 (c + 1) f fa fb fc st hs hst hfc hc c 1 (J4 s fc 0 (bbG fa fb) 0) 1 (by have h0 : Gok 0 (sh (bbG fa fb)) := Gok.nil; have := h0.join hb1; rwa [Nat.zero_add] at this) hJ (by omega) (by omega) (by omega) (by omega)
set_option maxRecDepth 100000 in
theorem e4_NRN (s : Sv) (n k c : Nat) (f fa fb fc : Nat → Int) (st : Int) : haltH [2, 9, 10, 79, 80] [12, 11, 17, 16, 15] 18 rd4 (Ly.run ctxH 9000 [(5, true), (6, true), (6, true), (3, false), (1, true), (22, true)] (Ly.start Try.f4 [svV s nilS (sls 1 (k + 1)), nilS, .int .i64 st] (mkH [some (ints .u8 f n), some (bytes2 fa fb (k + 1)), some (ints .u8 fc c)]))) =
  (true, [tLn k, tS st, tR1 k, t6 (0 + (k + 1)), tOkG (sh (sh (bbG fa fb))) (k + 1) (0 + (k + 1)), tOkG (sh (sh (bbG fa fb))) (k + 1) (0 + (k + 1))], true, (Try.f4, k4z, some 68, 3), v4z 12 17 st, (true, true, true), [some (.cells (cellsPb 11 0 (mOf s) nilV nilV) 60), some (memL (gs (gm (sh (sh (bbG fa fb))) (0 + (k + 1))))), some (.cells (cellsRb 16 15 (mOf s) nilV nilV) 56), some (memL (gm (sh (sh (bbG fa fb))) (0 + (k + 1)))), some (regsR (mOf s))]) := by kernel_rfl
theorem g4_NRN (ht : Tail4) (s : Sv) (n k c : Nat) (f fa fb fc : Nat → Int) (st : Int) (hs : s.Ok) (hk : k + 1 ≤ 300) (hb : ∀ e, e < k + 1 → B16 (fa e) ∧ B8 (fb e)) (hst : st ≤ 300) : LCalls Try.prog 4 [svV s nilS (sls 1 (k + 1)), nilS, .int .i64 st] (mkH [some (ints .u8 f n), some (bytes2 fa fb (k + 1)), some (ints .u8 fc c)]) (fun u _ => u = .bool true) := by
  have hG : Gok (0 + (k + 1)) (sh (sh (bbG fa fb))) := by rw [Nat.zero_add]; exact (Gok.bb hb).shift.shift
  refine LCalls_of ctxH_ok gL4 (by kernel_rfl) (MWp.haltH ctxH_ok _ _ _ _ (e4_NRN s n k c f fa fb fc st) (tr_cons (tLn_ok hk) (tr_cons (tS_ok hst) (tr_cons (tR1_ok (by omega)) (tr_cons (t6_ok (by omega)) (tr_cons (tOkG_ok hG (by omega) (by omega)) (tr_cons (tOkG_ok hG (by omega) (by omega)) trivial)))))) ?_)
  intro H hnx hl hc hos
  simp only [List.map_cons, List.map_nil, List.cons.injEq, and_true] at hos
  obtain ⟨h1, h2, h3, h4, h5⟩ := hos
  rw [gs_eq] at h2
  exact ht H 12 17 3 (jOf s (gm (sh (sh (bbG fa fb))) (0 + (k + 1))) 0 f) _ _ _ _ st (opened_N hl hc h1 h2 h3 h4 h5 (by decide)) (jOf_ok hs hG.mem (fun e he => by omega)) rfl (by show 0 ≤ 1000; omega) (by omega) hst
theorem h4_NR (s : Sv) (n k c : Nat) (f fa fb fc : Nat → Int) (st : Int) : headAt [1, 2, 3, 6, 7, 8] [0, 1, 2, 3, 6] rd4 (Ly.run ctxH 73 [(5, true), (3, true), (2, true), (6, true)] (Ly.start Try.f4 [svV s nilS (sls 1 (k + 1)), sl 2 c, .int .i64 st] (mkH [some (ints .u8 f n), some (bytes2 fa fb (k + 1)), some (ints .u8 fc c)]))) = (true, [tLn k, tC c, tS st, tR1 k], true, (Try.f4, k4, some 17, 3), v4 c st 0 (sls 4 (0 + (k + 1))), os4 s nilS (sls 1 (k + 1)) (ints .u8 f n) (bytes2 fa fb (k + 1)) c fc (rowG (sh (bbG fa fb)) (k + 1))) := by kernel_rfl
theorem l4_NR (ht : Tail4) (s : Sv) (n k c : Nat) (f fa fb fc : Nat → Int) (st : Int) (hs : s.Ok) (hk : k + 1 ≤ 300) (hb : ∀ e, e < k + 1 → B16 (fa e) ∧ B8 (fb e)) (hst : st ≤ 300) (hc : c ≤ 200) (hfc : ∀ e, e < c → B8 (fc e)) : LCalls Try.prog 4 [svV s nilS (sls 1 (k + 1)), sl 2 c, .int .i64 st] (mkH [some (ints .u8 f n), some (bytes2 fa fb (k + 1)), some (ints .u8 fc c)]) (fun u _ => u = .bool true) := by
  refine LCalls_of ctxH_ok gL4 (by kernel_rfl) (MWp.head ctxH_ok _ _ _ _ (h4_NR s n k c f fa fb fc st) (tr_cons (tLn_ok hk) (tr_cons (tC_ok hc) (tr_cons (tS_ok hst) (tr_cons (tR1_ok (by omega)) trivial)))) (plain4 (Gn.bb fa fb).sh) ?_)
  refine MWp.weak (os4_weak _ _ _ _ _ _ _ _) ?_
  rw [Nat.zero_add]
  exact loop4_N ht s n (k + 1) c f fa fb fc st hs hst hfc hc c (k + 1) (sh (bbG fa fb)) 0 (Gok.bb hb).shift (Gn.bb fa fb).sh (by omega) (by omega) (by omega) (by omega)
set_option maxRecDepth 100000 in
theorem e4_ENN (s : Sv) (n k c : Nat) (f fa fb fc : Nat → Int) (st : Int) : haltH [2, 9, 10, 79, 80] [12, 11, 17, 16, 15] 18 rd4 (Ly.run ctxH 9000 [(12, true)] (Ly.start Try.f4 [svV s (sl 0 0) nilS, nilS, .int .i64 st] (mkH [some (ints .u8 f 0), some (bytes2 fa fb k), some (ints .u8 fc c)]))) =
  (true, [tS st], true, (Try.f4, k4z, some 68, 3), v4z 12 17 st, (true, true, true), [some (.cells (cellsPb 11 0 (mOf s) (.slice (some ⟨9, 0, none⟩) 0 0) nilV) 60), some (memL (gs (gm (GA [] 0) 0))), some (.cells (cellsRb 16 15 (mOf s) (sl 0 0) nilV) 56), some (memL (gm (GA [] 0) 0)), some (regsR (mOf s))]) := by kernel_rfl
theorem g4_ENN (ht : Tail4) (s : Sv) (n k c : Nat) (f fa fb fc : Nat → Int) (st : Int) (hs : s.Ok) (hst : st ≤ 300) : LCalls Try.prog 4 [svV s (sl 0 0) nilS, nilS, .int .i64 st] (mkH [some (ints .u8 f 0), some (bytes2 fa fb k), some (ints .u8 fc c)]) (fun u _ => u = .bool true) := by
  have hG : Gok 0 (GA [] 0) := Gok.nil
  refine LCalls_of ctxH_ok gL4 (by kernel_rfl) (MWp.haltH ctxH_ok _ _ _ _ (e4_ENN s n k c f fa fb fc st) (tr_cons (tS_ok hst) trivial) ?_)
  intro H hnx hl hc hos
  simp only [List.map_cons, List.map_nil, List.cons.injEq, and_true] at hos
  obtain ⟨h1, h2, h3, h4, h5⟩ := hos
  rw [gs_eq] at h2
  exact ht H 12 17 3 (jOf s (gm (GA [] 0) 0) 0 f) _ _ _ _ st (opened_E hl hc h1 h2 h3 h4 h5 (by decide)) (jOf_ok hs hG.mem (fun e he => by omega)) rfl (by show 0 ≤ 1000; omega) (by omega) hst
set_option maxRecDepth 100000 in
theorem e4_ENC (s : Sv) (n k c : Nat) (f fa fb fc : Nat → Int) (st : Int) : haltH [2, 9, 10, 79, 80] [12, 11, 17, 16, 15] 18 rd4 (Ly.run ctxH 9000 [(9, true), (2, true), (9, false)] (Ly.start Try.f4 [svV s (sl 0 0) nilS, sl 2 c, .int .i64 st] (mkH [some (ints .u8 f 0), some (bytes2 fa fb k), some (ints .u8 fc c)]))) =
  (true, [tC c, tS st, tE4 0 c], true, (Try.f4, k4z, some 68, 3), v4z 12 17 st, (true, true, true), [some (.cells (cellsPb 11 0 (mOf s) (.slice (some ⟨9, 0, none⟩) 0 0) nilV) 60), some (memL (gs (gm (GA [] 0) 0))), some (.cells (cellsRb 16 15 (mOf s) (sl 0 0) nilV) 56), some (memL (gm (GA [] 0) 0)), some (regsR (mOf s))]) := by kernel_rfl
theorem g4_ENC (ht : Tail4) (s : Sv) (n k c : Nat) (f fa fb fc : Nat → Int) (st : Int) (hs : s.Ok) (hst : st ≤ 300) (hc : c ≤ 200) (hc0 : c = 0) : LCalls Try.prog 4 [svV s (sl 0 0) nilS, sl 2 c, .int .i64 st] (mkH [some (ints .u8 f 0), some (bytes2 fa fb k), some (ints .u8 fc c)]) (fun u _ => u = .bool true) := by
  have hG : Gok 0 (GA [] 0) := Gok.nil
  refine LCalls_of ctxH_ok gL4 (by kernel_rfl) (MWp.haltH ctxH_ok _ _ _ _ (e4_ENC s n k c f fa fb fc st) (tr_cons (tC_ok hc) (tr_cons (tS_ok hst) (tr_cons (tE4_ok (by omega)) trivial))) ?_)
  intro H hnx hl hc hos
  simp only [List.map_cons, List.map_nil, List.cons.injEq, and_true] at hos
  obtain ⟨h1, h2, h3, h4, h5⟩ := hos
  rw [gs_eq] at h2
  exact ht H 12 17 3 (jOf s (gm (GA [] 0) 0) 0 f) _ _ _ _ st (opened_E hl hc h1 h2 h3 h4 h5 (by decide)) (jOf_ok hs hG.mem (fun e he => by omega)) rfl (by show 0 ≤ 1000; omega) (by omega) hst
theorem h4_EN (s : Sv) (n k c : Nat) (f fa fb fc : Nat → Int) (st : Int) : headAt [1, 2, 3, 6, 7, 8] [0, 1, 2, 3, 5] rd4 (Ly.run ctxH 73 [(9, true), (2, true)] (Ly.start Try.f4 [svV s (sl 0 0) nilS, sl 2 c, .int .i64 st] (mkH [some (ints .u8 f 0), some (bytes2 fa fb k), some (ints .u8 fc c)]))) = (true, [tC c, tS st], true, (Try.f4, k4, some 17, 3), v4 c st 0 (.slice (some ⟨4, 0, none⟩) 0 0), os4 s (sl 0 0) nilS (ints .u8 f 0) (bytes2 fa fb k) c fc (.cells [] 33)) := by kernel_rfl
theorem l4_EN (ht : Tail4) (s : Sv) (n k c : Nat) (f fa fb fc : Nat → Int) (st : Int) (hs : s.Ok) (hst : st ≤ 300) (hc : c ≤ 200) (hfc : ∀ e, e < c → B8 (fc e)) : LCalls Try.prog 4 [svV s (sl 0 0) nilS, sl 2 c, .int .i64 st] (mkH [some (ints .u8 f 0), some (bytes2 fa fb k), some (ints .u8 fc c)]) (fun u _ => u = .bool true) := by
  rcases c with _ | c
  · exact g4_ENC ht s n k 0 f fa fb fc st hs hst hc rfl
  · refine LCalls_of ctxH_ok gL4 (by kernel_rfl) (MWp.head ctxH_ok _ _ _ _ (h4_EN s n k (c + 1) f fa fb fc st) (tr_cons (tC_ok hc) (tr_cons (tS_ok hst) trivial)) (plain4 trivial) ?_)
    refine MWp.weak (os4_weak _ _ _ _ _ _ _ _) ?_
    refine MWp.slots (v4_weak (c + 1) st) (by show (slots 106 _).length ≤ 1000000; simp [slots]) ?_
    have hJ : Gn (J4 s fc 0 (bbG fa fb) 0) := (Gn.bb fa fb).sh.join (Gn.lst1 _ _)
    refine MWp.head ctxH_ok _ _ _ _ (f4_E s n k (c + 1) f fa fb fc st) (tI4_ok (by omega) (by omega)) (plain4 hJ) ?_
    have hw : IntKind.i64.wrap (0 + 1) = 1 := by rw [IntKind.wrap_i64]; rfl
    rw [hw]
    have hb1 : Gok 1 (lstG 2 1 (b4 s fc 0)) := Gok.cons (by simp) (hfc (ix 0) (by unfold ix; omega)) Gok.nil
    exact loop4_E ht s n k (c + 1) f fa fb fc st hs hst hfc hc c 1 (J4 s fc 0 (bbG fa fb) 0) 1 (by have h0 : Gok 0 (sh (bbG fa fb)) := Gok.nil; have := h0.join hb1; rwa [Nat.zero_add] at this) hJ (by omega) (by omega) (by omega) (by omega)
set_option maxRecDepth 100000 in
theorem e4_EEN (s : Sv) (n k c : Nat) (f fa fb fc : Nat → Int) (st : Int) : haltH [2, 9, 10, 79, 80] [12, 11, 17, 16, 15] 18 rd4 (Ly.run ctxH 9000 [(12, true)] (Ly.start Try.f4 [svV s (sl 0 0) (sls 1 0), nilS, .int .i64 st] (mkH [some (ints .u8 f 0), some (bytes2 fa fb 0), some (ints .u8 fc c)]))) =
  (true, [tS st], true, (Try.f4, k4z, some 68, 3), v4z 12 17 st, (true, true, true), [some (.cells (cellsPb 11 0 (mOf s) (.slice (some ⟨9, 0, none⟩) 0 0) nilV) 60), some (memL (gs (gm (GA [] 0) 0))), some (.cells (cellsRb 16 15 (mOf s) (sl 0 0) nilV) 56), some (memL (gm (GA [] 0) 0)), some (regsR (mOf s))]) := by kernel_rfl
theorem g4_EEN (ht : Tail4) (s : Sv) (n k c : Nat) (f fa fb fc : Nat → Int) (st : Int) (hs : s.Ok) (hst : st ≤ 300) : LCalls Try.prog 4 [svV s (sl 0 0) (sls 1 0), nilS, .int .i64 st] (mkH [some (ints .u8 f 0), some (bytes2 fa fb 0), some (ints .u8 fc c)]) (fun u _ => u = .bool true) := by
  have hG : Gok 0 (GA [] 0) := Gok.nil
  refine LCalls_of ctxH_ok gL4 (by kernel_rfl) (MWp.haltH ctxH_ok _ _ _ _ (e4_EEN s n k c f fa fb fc st) (tr_cons (tS_ok hst) trivial) ?_)
  intro H hnx hl hc hos
  simp only [List.map_cons, List.map_nil, List.cons.injEq, and_true] at hos
  obtain ⟨h1, h2, h3, h4, h5⟩ := hos
  rw [gs_eq] at h2
  exact ht H 12 17 3 (jOf s (gm (GA [] 0) 0) 0 f) _ _ _ _ st (opened_E hl hc h1 h2 h3 h4 h5 (by decide)) (jOf_ok hs hG.mem (fun e he => by omega)) rfl (by show 0 ≤ 1000; omega) (by omega) hst
set_option maxRecDepth 100000 in
theorem e4_EEC (s : Sv) (n k c : Nat) (f fa fb fc : Nat → Int) (st : Int) : haltH [2, 9, 10, 79, 80] [12, 11, 17, 16, 15] 18 rd4 (Ly.run ctxH 9000 [(9, true), (2, true), (9, false)] (Ly.start Try.f4 [svV s (sl 0 0) (sls 1 0), sl 2 c, .int .i64 st] (mkH [some (ints .u8 f 0), some (bytes2 fa fb 0), some (ints .u8 fc c)]))) =
  (true, [tC c, tS st, tE4 0 c], true, (Try.f4, k4z, some 68, 3), v4z 12 17 st, (true, true, true), [some (.cells (cellsPb 11 0 (mOf s) (.slice (some ⟨9, 0, none⟩) 0 0) nilV) 60), some (memL (gs (gm (GA [] 0) 0))), some (.cells (cellsRb 16 15 (mOf s) (sl 0 0) nilV) 56), some (memL (gm (GA [] 0) 0)), some (regsR (mOf s))]) := by kernel_rfl
theorem g4_EEC (ht : Tail4) (s : Sv) (n k c : Nat) (f fa fb fc : Nat → Int) (st : Int) (hs : s.Ok) (hst : st ≤ 300) (hc : c ≤ 200) (hc0 : c = 0) : LCalls Try.prog 4 [svV s (sl 0 0) (sls 1 0), sl 2 c, .int .i64 st] (mkH [some (ints .u8 f 0), some (bytes2 fa fb 0), some (ints .u8 fc c)]) (fun u _ => u = .bool true) := by
  have hG : Gok 0 (GA [] 0) := Gok.nil
  refine LCalls_of ctxH_ok gL4 (by kernel_rfl) (MWp.haltH ctxH_ok _ _ _ _ (e4_EEC s n k c f fa fb fc st) (tr_cons (tC_ok hc) (tr_cons (tS_ok hst) (tr_cons (tE4_ok (by omega)) trivial))) ?_)
  intro H hnx hl hc hos
  simp only [List.map_cons, List.map_nil, List.cons.injEq, and_true] at hos
  obtain ⟨h1, h2, h3, h4, h5⟩ := hos
  rw [gs_eq] at h2
  exact ht H 12 17 3 (jOf s (gm (GA [] 0) 0) 0 f) _ _ _ _ st (opened_E hl hc h1 h2 h3 h4 h5 (by decide)) (jOf_ok hs hG.mem (fun e he => by omega)) rfl (by show 0 ≤ 1000; omega) (by omega) hst
theorem h4_EE (s : Sv) (n k c : Nat) (f fa fb fc : Nat → Int) (st : Int) : headAt [1, 2, 3, 6, 7, 8] [0, 1, 2, 3, 5] rd4 (Ly.run ctxH 73 [(9, true), (2, true)] (Ly.start Try.f4 [svV s (sl 0 0) (sls 1 0), sl 2 c, .int .i64 st] (mkH [some (ints .u8 f 0), some (bytes2 fa fb 0), some (ints .u8 fc c)]))) = (true, [tC c, tS st], true, (Try.f4, k4, some 17, 3), v4 c st 0 (.slice (some ⟨4, 0, none⟩) 0 0), os4 s (sl 0 0) (sls 1 0) (ints .u8 f 0) (bytes2 fa fb 0) c fc (.cells [] 33)) := by kernel_rfl
theorem l4_EE (ht : Tail4) (s : Sv) (n k c : Nat) (f fa fb fc : Nat → Int) (st : Int) (hs : s.Ok) (hst : st ≤ 300) (hc : c ≤ 200) (hfc : ∀ e, e < c → B8 (fc e)) : LCalls Try.prog 4 [svV s (sl 0 0) (sls 1 0), sl 2 c, .int .i64 st] (mkH [some (ints .u8 f 0), some (bytes2 fa fb 0), some (ints .u8 fc c)]) (fun u _ => u = .bool true) := by
  rcases c with _ | c
  · exact g4_EEC ht s n k 0 f fa fb fc st hs hst hc rfl
  · refine LCalls_of ctxH_ok gL4 (by kernel_rfl) (MWp.head ctxH_ok _ _ _ _ (h4_EE s n k (c + 1) f fa fb fc st) (tr_cons (tC_ok hc) (tr_cons (tS_ok hst) trivial)) (plain4 trivial) ?_)
    refine MWp.weak (os4_weak _ _ _ _ _ _ _ _) ?_
    refine MWp.slots (v4_weak (c + 1) st) (by show (slots 106 _).length ≤ 1000000; simp [slots]) ?_
    have hJ : Gn (J4 s fc 0 (bbG fa fb) 0) := (Gn.bb fa fb).sh.join (Gn.lst1 _ _)
    refine MWp.head ctxH_ok _ _ _ _ (f4_E s n 0 (c + 1) f fa fb fc st) (tI4_ok (by omega) (by omega)) (plain4 hJ) ?_
    have hw : IntKind.i64.wrap (0 + 1) = 1 := by rw [IntKind.wrap_i64]; rfl
    rw [hw]
    have hb1 : Gok 1 (lstG 2 1 (b4 s fc 0)) := Gok.cons (by simp) (hfc (ix 0) (by unfold ix; omega)) Gok.nil
    exact loop4_E ht s n 0 (c + 1) f fa fb fc st hs hst hfc hc c 1 (J4 s fc 0 (bbG fa fb) 0) 1 (by have h0 : Gok 0 (sh (bbG fa fb)) := Gok.nil; have := h0.join hb1; rwa [Nat.zero_add] at this) hJ (by omega) (by omega) (by omega) (by omega)
set_option maxRecDepth 100000 in
theorem e4_ERN (s : Sv) (n k c : Nat) (f fa fb fc : Nat → Int) (st : Int) : haltH [2, 9, 10, 79, 80] [13, 12, 18, 17, 16] 19 rd4 (Ly.run ctxH 9000 [(5, true), (6, true), (6, true), (3, false), (1, true), (25, true)] (Ly.start Try.f4 [svV s (sl 0 0) (sls 1 (k + 1)), nilS, .int .i64 st] (mkH [some (ints .u8 f 0), some (bytes2 fa fb (k + 1)), some (ints .u8 fc c)]))) =
  (true, [tLn k, tS st, tR1 k, t6 (0 + (k + 1)), tOkG (sh (sh (bbG fa fb))) (k + 1) (0 + (k + 1)), tOkG (sh (sh (bbG fa fb))) (k + 1) (0 + (k + 1))], true, (Try.f4, k4z, some 68, 3), v4z 13 18 st, (true, true, true), [some (.cells (cellsPb 12 0 (mOf s) (.slice (some ⟨10, 0, none⟩) 0 0) nilV) 60), some (memL (gs (gm (sh (sh (bbG fa fb))) (0 + (k + 1))))), some (.cells (cellsRb 17 16 (mOf s) (sl 0 0) nilV) 56), some (memL (gm (sh (sh (bbG fa fb))) (0 + (k + 1)))), some (regsR (mOf s))]) := by kernel_rfl
theorem g4_ERN (ht : Tail4) (s : Sv) (n k c : Nat) (f fa fb fc : Nat → Int) (st : Int) (hs : s.Ok) (hk : k + 1 ≤ 300) (hb : ∀ e, e < k + 1 → B16 (fa e) ∧ B8 (fb e)) (hst : st ≤ 300) : LCalls Try.prog 4 [svV s (sl 0 0) (sls 1 (k + 1)), nilS, .int .i64 st] (mkH [some (ints .u8 f 0), some (bytes2 fa fb (k + 1)), some (ints .u8 fc c)]) (fun u _ => u = .bool true) := by
  have hG : Gok (0 + (k + 1)) (sh (sh (bbG fa fb))) := by rw [Nat.zero_add]; exact (Gok.bb hb).shift.shift
  refine LCalls_of ctxH_ok gL4 (by kernel_rfl) (MWp.haltH ctxH_ok _ _ _ _ (e4_ERN s n k c f fa fb fc st) (tr_cons (tLn_ok hk) (tr_cons (tS_ok hst) (tr_cons (tR1_ok (by omega)) (tr_cons (t6_ok (by omega)) (tr_cons (tOkG_ok hG (by omega) (by omega)) (tr_cons (tOkG_ok hG (by omega) (by omega)) trivial)))))) ?_)
  intro H hnx hl hc hos
  simp only [List.map_cons, List.map_nil, List.cons.injEq, and_true] at hos
  obtain ⟨h1, h2, h3, h4, h5⟩ := hos
  rw [gs_eq] at h2
  exact ht H 13 18 3 (jOf s (gm (sh (sh (bbG fa fb))) (0 + (k + 1))) 0 f) _ _ _ _ st (opened_E hl hc h1 h2 h3 h4 h5 (by decide)) (jOf_ok hs hG.mem (fun e he => by omega)) rfl (by show 0 ≤ 1000; omega) (by omega) hst
theorem h4_ER (s : Sv) (n k c : Nat) (f fa fb fc : Nat → Int) (st : Int) : headAt [1, 2, 3, 6, 7, 8] [0, 1, 2, 3, 6] rd4 (Ly.run ctxH 73 [(5, true), (3, true), (2, true), (6, true)] (Ly.start Try.f4 [svV s (sl 0 0) (sls 1 (k + 1)), sl 2 c, .int .i64 st] (mkH [some (ints .u8 f 0), some (bytes2 fa fb (k + 1)), some (ints .u8 fc c)]))) = (true, [tLn k, tC c, tS st, tR1 k], true, (Try.f4, k4, some 17, 3), v4 c st 0 (sls 4 (0 + (k + 1))), os4 s (sl 0 0) (sls 1 (k + 1)) (ints .u8 f 0) (bytes2 fa fb (k + 1)) c fc (rowG (sh (bbG fa fb)) (k + 1))) := by kernel_rfl
theorem l4_ER (ht : Tail4) (s : Sv) (n k c : Nat) (f fa fb fc : Nat → Int) (st : Int) (hs : s.Ok) (hk : k + 1 ≤ 300) (hb : ∀ e, e < k + 1 → B16 (fa e) ∧ B8 (fb e)) (hst : st ≤ 300) (hc : c ≤ 200) (hfc : ∀ e, e < c → B8 (fc e)) : LCalls Try.prog 4 [svV s (sl 0 0) (sls 1 (k + 1)), sl 2 c, .int .i64 st] (mkH [some (ints .u8 f 0), some (bytes2 fa fb (k + 1)), some (ints .u8 fc c)]) (fun u _ => u = .bool true) := by
  refine LCalls_of ctxH_ok gL4 (by kernel_rfl) (MWp.head ctxH_ok _ _ _ _ (h4_ER s n k c f fa fb fc st) (tr_cons (tLn_ok hk) (tr_cons (tC_ok hc) (tr_cons (tS_ok hst) (tr_cons (tR1_ok (by omega)) trivial)))) (plain4 (Gn.bb fa fb).sh) ?_)
  refine MWp.weak (os4_weak _ _ _ _ _ _ _ _) ?_
  rw [Nat.zero_add]
  exact loop4_E ht s n (k + 1) c f fa fb fc st hs hst hfc hc c (k + 1) (sh (bbG fa fb)) 0 (Gok.bb hb).shift (Gn.bb fa fb).sh (by omega) (by omega) (by omega) (by omega)
set_option maxRecDepth 100000 in
theorem e4_RNN (s : Sv) (n k c : Nat) (f fa fb fc : Nat → Int) (st : Int) : haltH [2, 9, 10, 79, 80] [13, 12, 18, 17, 16, 10, 0] 19 rd4 (Ly.run ctxH 9000 [(0, true), (11, true), (4, false), (19, false), (1, true)] (Ly.start Try.f4 [svV s (sl 0 (n + 1)) nilS, nilS, .int .i64 st] (mkH [some (ints .u8 f (n + 1)), some (bytes2 fa fb k), some (ints .u8 fc c)]))) =
  (true, [tLi n, tS st, tMx n, tMx n, tR1 n], true, (Try.f4, k4z, some 68, 3), v4z 13 18 st, (true, true, true), [some (.cells (cellsPb 12 0 (mOf s) (inV 10 0 (0 + (n + 1))) nilV) 60), some (memL (gs (gm (GA [] 0) 0))), some (.cells (cellsRb 17 16 (mOf s) (inV 0 0 (n + 1)) nilV) 56), some (memL (gm (GA [] 0) 0)), some (regsR (mOf s)), some (rowP (fun e => f (0 + e)) (n + 1)), some (rowR f (n + 1))]) := by kernel_rfl
theorem g4_RNN (ht : Tail4) (s : Sv) (n k c : Nat) (f fa fb fc : Nat → Int) (st : Int) (hs : s.Ok) (hn : n + 1 ≤ 256) (hf : ∀ e, e < n + 1 → B8 (f e)) (hst : st ≤ 300) : LCalls Try.prog 4 [svV s (sl 0 (n + 1)) nilS, nilS, .int .i64 st] (mkH [some (ints .u8 f (n + 1)), some (bytes2 fa fb k), some (ints .u8 fc c)]) (fun u _ => u = .bool true) := by
  have hG : Gok 0 (GA [] 0) := Gok.nil
  refine LCalls_of ctxH_ok gL4 (by kernel_rfl) (MWp.haltH ctxH_ok _ _ _ _ (e4_RNN s n k c f fa fb fc st) (tr_cons (tLi_ok (by omega)) (tr_cons (tS_ok hst) (tr_cons (tMx_ok hn) (tr_cons (tMx_ok hn) (tr_cons (tR1_ok (by omega)) trivial))))) ?_)
  intro H hnx hl hc hos
  simp only [List.map_cons, List.map_nil, List.cons.injEq, and_true] at hos
  obtain ⟨h1, h2, h3, h4, h5, h6, h7⟩ := hos
  rw [gs_eq] at h2
  have ez : (fun e => f (0 + e)) = f := by funext e; rw [Nat.zero_add]
  rw [ez] at h6
  rw [Nat.zero_add] at h1
  exact ht H 13 18 3 (jOf s (gm (GA [] 0) 0) (n + 1) f) _ _ _ _ st (opened_R hl hc h1 h2 h3 h4 h5 h6 h7 (by decide)) (jOf_ok hs hG.mem hf) rfl (by show (n + 1) ≤ 1000; omega) (by omega) hst
set_option maxRecDepth 100000 in
theorem e4_RNC (s : Sv) (n k c : Nat) (f fa fb fc : Nat → Int) (st : Int) : haltH [2, 9, 10, 79, 80] [13, 12, 18, 17, 16, 10, 0] 19 rd4 (Ly.run ctxH 9000 [(0, true), (8, true), (2, true), (4, false), (4, false), (14, false), (1, true)] (Ly.start Try.f4 [svV s (sl 0 (n + 1)) nilS, sl 2 c, .int .i64 st] (mkH [some (ints .u8 f (n + 1)), some (bytes2 fa fb k), some (ints .u8 fc c)]))) =
  (true, [tLi n, tC c, tS st, tMx n, tE4 0 c, tMx n, tR1 n], true, (Try.f4, k4z, some 68, 3), v4z 13 18 st, (true, true, true), [some (.cells (cellsPb 12 0 (mOf s) (inV 10 0 (0 + (n + 1))) nilV) 60), some (memL (gs (gm (GA [] 0) 0))), some (.cells (cellsRb 17 16 (mOf s) (inV 0 0 (n + 1)) nilV) 56), some (memL (gm (GA [] 0) 0)), some (regsR (mOf s)), some (rowP (fun e => f (0 + e)) (n + 1)), some (rowR f (n + 1))]) := by kernel_rfl
theorem g4_RNC (ht : Tail4) (s : Sv) (n k c : Nat) (f fa fb fc : Nat → Int) (st : Int) (hs : s.Ok) (hn : n + 1 ≤ 256) (hf : ∀ e, e < n + 1 → B8 (f e)) (hst : st ≤ 300) (hc : c ≤ 200) (hc0 : c = 0) : LCalls Try.prog 4 [svV s (sl 0 (n + 1)) nilS, sl 2 c, .int .i64 st] (mkH [some (ints .u8 f (n + 1)), some (bytes2 fa fb k), some (ints .u8 fc c)]) (fun u _ => u = .bool true) := by
  have hG : Gok 0 (GA [] 0) := Gok.nil
  refine LCalls_of ctxH_ok gL4 (by kernel_rfl) (MWp.haltH ctxH_ok _ _ _ _ (e4_RNC s n k c f fa fb fc st) (tr_cons (tLi_ok (by omega)) (tr_cons (tC_ok hc) (tr_cons (tS_ok hst) (tr_cons (tMx_ok hn) (tr_cons (tE4_ok (by omega)) (tr_cons (tMx_ok hn) (tr_cons (tR1_ok (by omega)) trivial))))))) ?_)
  intro H hnx hl hc hos
  simp only [List.map_cons, List.map_nil, List.cons.injEq, and_true] at hos
  obtain ⟨h1, h2, h3, h4, h5, h6, h7⟩ := hos
  rw [gs_eq] at h2
  have ez : (fun e => f (0 + e)) = f := by funext e; rw [Nat.zero_add]
  rw [ez] at h6
  rw [Nat.zero_add] at h1
  exact ht H 13 18 3 (jOf s (gm (GA [] 0) 0) (n + 1) f) _ _ _ _ st (opened_R hl hc h1 h2 h3 h4 h5 h6 h7 (by decide)) (jOf_ok hs hG.mem hf) rfl (by show (n + 1) ≤ 1000; omega) (by omega) hst
theorem h4_RN (s : Sv) (n k c : Nat) (f fa fb fc : Nat → Int) (st : Int) : headAt [1, 2, 3, 6, 7, 8] [0, 1, 2, 3, 5] rd4 (Ly.run ctxH 73 [(0, true), (8, true), (2, true), (4, false)] (Ly.start Try.f4 [svV s (sl 0 (n + 1)) nilS, sl 2 c, .int .i64 st] (mkH [some (ints .u8 f (n + 1)), some (bytes2 fa fb k), some (ints .u8 fc c)]))) = (true, [tLi n, tC c, tS st, tMx n], true, (Try.f4, k4, some 17, 3), v4 c st 0 (.slice (some ⟨4, 0, none⟩) 0 0), os4 s (sl 0 (n + 1)) nilS (ints .u8 f (n + 1)) (bytes2 fa fb k) c fc (.cells [] 33)) := by kernel_rfl
theorem l4_RN (ht : Tail4) (s : Sv) (n k c : Nat) (f fa fb fc : Nat → Int) (st : Int) (hs : s.Ok) (hn : n + 1 ≤ 256) (hf : ∀ e, e < n + 1 → B8 (f e)) (hst : st ≤ 300) (hc : c ≤ 200) (hfc : ∀ e, e < c → B8 (fc e)) : LCalls Try.prog 4 [svV s (sl 0 (n + 1)) nilS, sl 2 c, .int .i64 st] (mkH [some (ints .u8 f (n + 1)), some (bytes2 fa fb k), some (ints .u8 fc c)]) (fun u _ => u = .bool true) := by
  rcases c with _ | c
  · exact g4_RNC ht s n k 0 f fa fb fc st hs hn hf hst hc rfl
  · refine LCalls_of ctxH_ok gL4 (by kernel_rfl) (MWp.head ctxH_ok _ _ _ _ (h4_RN s n k (c + 1) f fa fb fc st) (tr_cons (tLi_ok (by omega)) (tr_cons (tC_ok hc) (tr_cons (tS_ok hst) (tr_cons (tMx_ok hn) trivial)))) (plain4 trivial) ?_)
    refine MWp.weak (os4_weak _ _ _ _ _ _ _ _) ?_
    refine MWp.slots (v4_weak (c + 1) st) (by show (slots 106 _).length ≤ 1000000; simp [slots]) ?_
    have hJ : Gn (J4 s fc 0 (bbG fa fb) 0) := (Gn.bb fa fb).sh.join (Gn.lst1 _ _)
    refine MWp.head ctxH_ok _ _ _ _ (f4_R s n k (c + 1) f fa fb fc st) (tI4_ok (by omega) (by omega)) (plain4 hJ) ?_
    have hw : IntKind.i64.wrap (0 + 1) = 1 := by rw [IntKind.wrap_i64]; rfl
    rw [hw]
    have hb1 : Gok 1 (lstG 2 1 (b4 s fc 0)) := Gok.cons (by simp) (hfc (ix 0) (by unfold ix; omega)) Gok.nil
    exact loop4_R ht s n k (c + 1) f fa fb fc st hs hn hf hst hfc hc c 1 (J4 s fc 0 (bbG fa fb) 0) 1 (by have h0 : Gok 0 (sh (bbG fa fb)) := Gok.nil; have := h0.join hb1; rwa [Nat.zero_add] at this) hJ (by omega) (by omega) (by omega) (by omega)
set_option maxRecDepth 100000 in
theorem e4_REN (s : Sv) (n k c : Nat) (f fa fb fc : Nat → Int) (st : Int) : haltH [2, 9, 10, 79, 80] [13, 12, 18, 17, 16, 10, 0] 19 rd4 (Ly.run ctxH 9000 [(0, true), (11, true), (4, false), (19, false), (1, true)] (Ly.start Try.f4 [svV s (sl 0 (n + 1)) (sls 1 0), nilS, .int .i64 st] (mkH [some (ints .u8 f (n + 1)), some (bytes2 fa fb 0), some (ints .u8 fc c)]))) =
  (true, [tLi n, tS st, tMx n, tMx n, tR1 n], true, (Try.f4, k4z, some 68, 3), v4z 13 18 st, (true, true, true), [some (.cells (cellsPb 12 0 (mOf s) (inV 10 0 (0 + (n + 1))) nilV) 60), some (memL (gs (gm (GA [] 0) 0))), some (.cells (cellsRb 17 16 (mOf s) (inV 0 0 (n + 1)) nilV) 56), some (memL (gm (GA [] 0) 0)), some (regsR (mOf s)), some (rowP (fun e => f (0 + e)) (n + 1)), some (rowR f (n + 1))]) := by kernel_rfl
theorem g4_REN (ht : Tail4) (s : Sv) (n k c : Nat) (f fa fb fc : Nat → Int) (st : Int) (hs : s.Ok) (hn : n + 1 ≤ 256) (hf : ∀ e, e < n + 1 → B8 (f e)) (hst : st ≤ 300) : LCalls Try.prog 4 [svV s (sl 0 (n + 1)) (sls 1 0), nilS, .int .i64 st] (mkH [some (ints .u8 f (n + 1)), some (bytes2 fa fb 0), some (ints .u8 fc c)]) (fun u _ => u = .bool true) := by
  have hG : Gok 0 (GA [] 0) := Gok.nil
  refine LCalls_of ctxH_ok gL4 (by kernel_rfl) (MWp.haltH ctxH_ok _ _ _ _ (e4_REN s n k c f fa fb fc st) (tr_cons (tLi_ok (by omega)) (tr_cons (tS_ok hst) (tr_cons (tMx_ok hn) (tr_cons (tMx_ok hn) (tr_cons (tR1_ok (by omega)) trivial))))) ?_)
  intro H hnx hl hc hos
  simp only [List.map_cons, List.map_nil, List.cons.injEq, and_true] at hos
  obtain ⟨h1, h2, h3, h4, h5, h6, h7⟩ := hos
  rw [gs_eq] at h2
  have ez : (fun e => f (0 + e)) = f := by funext e; rw [Nat.zero_add]
  rw [ez] at h6
  rw [Nat.zero_add] at h1
  exact ht H 13 18 3 (jOf s (gm (GA [] 0) 0) (n + 1) f) _ _ _ _ st (opened_R hl hc h1 h2 h3 h4 h5 h6 h7 (by decide)) (jOf_ok hs hG.mem hf) rfl (by show (n + 1) ≤ 1000; omega) (by omega) hst
set_option maxRecDepth 100000 in
theorem e4_REC (s : Sv) (n k c : Nat) (f fa fb fc : Nat → Int) (st : Int) : haltH [2, 9, 10, 79, 80] [13, 12, 18, 17, 16, 10, 0] 19 rd4 (Ly.run ctxH 9000 [(0, true), (8, true), (2, true), (4, false), (4, false), (14, false), (1, true)] (Ly.start Try.f4 [svV s (sl 0 (n + 1)) (sls 1 0), sl 2 c, .int .i64 st] (mkH [some (ints .u8 f (n + 1)), some (bytes2 fa fb 0), some (ints .u8 fc c)]))) =
  (true, [tLi n, tC c, tS st, tMx n, tE4 0 c, tMx n, tR1 n], true, (Try.f4, k4z, some 68, 3), v4z 13 18 st, (true, true, true), [some (.cells (cellsPb 12 0 (mOf s) (inV 10 0 (0 + (n + 1))) nilV) 60), some (memL (gs (gm (GA [] 0) 0))), some (.cells (cellsRb 17 16 (mOf s) (inV 0 0 (n + 1)) nilV) 56), some (memL (gm (GA [] 0) 0)), some (regsR (mOf s)), some (rowP (fun e => f (0 + e)) (n + 1)), some (rowR f (n + 1))]) := by kernel_rfl
theorem g4_REC (ht : Tail4) (s : Sv) (n k c : Nat) (f fa fb fc : Nat → Int) (st : Int) (hs : s.Ok) (hn : n + 1 ≤ 256) (hf : ∀ e, e < n + 1 → B8 (f e)) (hst : st ≤ 300) (hc : c ≤ 200) (hc0 : c = 0) : LCalls Try.prog 4 [svV s (sl 0 (n + 1)) (sls 1 0), sl 2 c, .int .i64 st] (mkH [some (ints .u8 f (n + 1)), some (bytes2 fa fb 0), some (ints .u8 fc c)]) (fun u _ => u = .bool true) := by
  have hG : Gok 0 (GA [] 0) := Gok.nil
  refine LCalls_of ctxH_ok gL4 (by kernel_rfl) (MWp.haltH ctxH_ok _ _ _ _ (e4_REC s n k c f fa fb fc st) (tr_cons (tLi_ok (by omega)) (tr_cons (tC_ok hc) (tr_cons (tS_ok hst) (tr_cons (tMx_ok hn) (tr_cons (tE4_ok (by omega)) (tr_cons (tMx_ok hn) (tr_cons (tR1_ok (by omega)) trivial))))))) ?_)
  intro H hnx hl hc hos
  simp only [List.map_cons, List.map_nil, List.cons.injEq, and_true] at hos
  obtain ⟨h1, h2, h3, h4, h5, h6, h7⟩ := hos
  rw [gs_eq] at h2
  have ez : (fun e => f (0 + e)) = f := by funext e; rw [Nat.zero_add]
  rw [ez] at h6
  rw [Nat.zero_add] at h1
  exact ht H 13 18 3 (jOf s (gm (GA [] 0) 0) (n + 1) f) _ _ _ _ st (opened_R hl hc h1 h2 h3 h4 h5 h6 h7 (by decide)) (jOf_ok hs hG.mem hf) rfl (by show (n + 1) ≤ 1000; omega) (by omega) hst
theorem h4_RE (s : Sv) (n k c : Nat) (f fa fb fc : Nat → Int) (st : Int) : headAt [1, 2, 3, 6, 7, 8] [0, 1, 2, 3, 5] rd4 (Ly.run ctxH 73 [(0, true), (8, true), (2, true), (4, false)] (Ly.start Try.f4 [svV s (sl 0 (n + 1)) (sls 1 0), sl 2 c, .int .i64 st] (mkH [some (ints .u8 f (n + 1)), some (bytes2 fa fb 0), some (ints .u8 fc c)]))) = (true, [tLi n, tC c, tS st, tMx n], true, (Try.f4, k4, some 17, 3), v4 c st 0 (.slice (some ⟨4, 0, none⟩) 0 0), os4 s (sl 0 (n + 1)) (sls 1 0) (ints .u8 f (n + 1)) (bytes2 fa fb 0) c fc (.cells [] 33)) := by kernel_rfl
theorem l4_RE (ht : Tail4) (s : Sv) (n k c : Nat) (f fa fb fc : Nat → Int) (st : Int) (hs : s.Ok) (hn : n + 1 ≤ 256) (hf : ∀ e, e < n + 1 → B8 (f e)) (hst : st ≤ 300) (hc : c ≤ 200) (hfc : ∀ e, e < c → B8 (fc e)) : LCalls Try.prog 4 [svV s (sl 0 (n + 1)) (sls 1 0), sl 2 c, .int .i64 st] (mkH [some (ints .u8 f (n + 1)), some (bytes2 fa fb 0), some (ints .u8 fc c)]) (fun u _ => u = .bool true) := by
  rcases c with _ | c
  · exact g4_REC ht s n k 0 f fa fb fc st hs hn hf hst hc rfl
  · refine LCalls_of ctxH_ok gL4 (by kernel_rfl) (MWp.head ctxH_ok _ _ _ _ (h4_RE s n k (c + 1) f fa fb fc st) (tr_cons (tLi_ok (by omega)) (tr_cons (tC_ok hc) (tr_cons (tS_ok hst) (tr_cons (tMx_ok hn) trivial)))) (plain4 trivial) ?_)
    refine MWp.weak (os4_weak _ _ _ _ _ _ _ _) ?_
    refine MWp.slots (v4_weak (c + 1) st) (by show (slots 106 _).length ≤ 1000000; simp [slots]) ?_
    have hJ : Gn (J4 s fc 0 (bbG fa fb) 0) := (Gn.bb fa fb).sh.join (Gn.lst1 _ _)
    refine MWp.head ctxH_ok _ _ _ _ (f4_R s n 0 (c + 1) f fa fb fc st) (tI4_ok (by omega) (by omega)) (plain4 hJ) ?_
    have hw : IntKind.i64.wrap (0 + 1) = 1 := by rw [IntKind.wrap_i64]; rfl
    rw [hw]
    have hb1 : Gok 1 (lstG 2 1 (b4 s fc 0)) := Gok.cons (by simp) (hfc (ix 0) (by unfold ix; omega)) Gok.nil
    exact loop4_R ht s n 0 (c + 1) f fa fb fc st hs hn hf hst hfc hc c 1 (J4 s fc 0 (bbG fa fb) 0) 1 (by have h0 : Gok 0 (sh (bbG fa fb)) := Gok.nil; have := h0.join hb1; rwa [Nat.zero_add] at this) hJ (by omega) (by omega) (by omega) (by omega)
set_option maxRecDepth 100000 in
theorem e4_RRN (s : Sv) (n k c : Nat) (f fa fb fc : Nat → Int) (st : Int) : haltH [2, 9, 10, 79, 80] [14, 13, 19, 18, 17, 11, 0] 20 rd4 (Ly.run ctxH 9000 [(0, true), (4, true), (6, true), (4, false), (1, true), (3, false), (1, true), (11, false), (1, true), (11, true)] (Ly.start Try.f4 [svV s (sl 0 (n + 1)) (sls 1 (k + 1)), nilS, .int .i64 st] (mkH [some (ints .u8 f (n + 1)), some (bytes2 fa fb (k + 1)), some (ints .u8 fc c)]))) =
  (true, [tLi n, tLn k, tS st, tMx n, tR1 k, t6 (0 + (k + 1)), tOkG (sh (sh (bbG fa fb))) (k + 1) (0 + (k + 1)), tMx n, tR1 n, tOkG (sh (sh (bbG fa fb))) (k + 1) (0 + (k + 1))], true, (Try.f4, k4z, some 68, 3), v4z 14 19 st, (true, true, true), [some (.cells (cellsPb 13 0 (mOf s) (inV 11 0 (0 + (n + 1))) nilV) 60), some (memL (gs (gm (sh (sh (bbG fa fb))) (0 + (k + 1))))), some (.cells (cellsRb 18 17 (mOf s) (inV 0 0 (n + 1)) nilV) 56), some (memL (gm (sh (sh (bbG fa fb))) (0 + (k + 1)))), some (regsR (mOf s)), some (rowP (fun e => f (0 + e)) (n + 1)), some (rowR f (n + 1))]) := by kernel_rfl
theorem g4_RRN (ht : Tail4) (s : Sv) (n k c : Nat) (f fa fb fc : Nat → Int) (st : Int) (hs : s.Ok) (hn : n + 1 ≤ 256) (hf : ∀ e, e < n + 1 → B8 (f e)) (hk : k + 1 ≤ 300) (hb : ∀ e, e < k + 1 → B16 (fa e) ∧ B8 (fb e)) (hst : st ≤ 300) : LCalls Try.prog 4 [svV s (sl 0 (n + 1)) (sls 1 (k + 1)), nilS, .int .i64 st] (mkH [some (ints .u8 f (n + 1)), some (bytes2 fa fb (k + 1)), some (ints .u8 fc c)]) (fun u _ => u = .bool true) := by
  have hG : Gok (0 + (k + 1)) (sh (sh (bbG fa fb))) := by rw [Nat.zero_add]; exact (Gok.bb hb).shift.shift
  refine LCalls_of ctxH_ok gL4 (by kernel_rfl) (MWp.haltH ctxH_ok _ _ _ _ (e4_RRN s n k c f fa fb fc st) (tr_cons (tLi_ok (by omega)) (tr_cons (tLn_ok hk) (tr_cons (tS_ok hst) (tr_cons (tMx_ok hn) (tr_cons (tR1_ok (by omega)) (tr_cons (t6_ok (by omega)) (tr_cons (tOkG_ok hG (by omega) (by omega)) (tr_cons (tMx_ok hn) (tr_cons (tR1_ok (by omega)) (tr_cons (tOkG_ok hG (by omega) (by omega)) trivial)))))))))) ?_)
  intro H hnx hl hc hos
  simp only [List.map_cons, List.map_nil, List.cons.injEq, and_true] at hos
  obtain ⟨h1, h2, h3, h4, h5, h6, h7⟩ := hos
  rw [gs_eq] at h2
  have ez : (fun e => f (0 + e)) = f := by funext e; rw [Nat.zero_add]
  rw [ez] at h6
  rw [Nat.zero_add] at h1
  exact ht H 14 19 3 (jOf s (gm (sh (sh (bbG fa fb))) (0 + (k + 1))) (n + 1) f) _ _ _ _ st (opened_R hl hc h1 h2 h3 h4 h5 h6 h7 (by decide)) (jOf_ok hs hG.mem hf) rfl (by show (n + 1) ≤ 1000; omega) (by omega) hst
theorem h4_RR (s : Sv) (n k c : Nat) (f fa fb fc : Nat → Int) (st : Int) : headAt [1, 2, 3, 6, 7, 8] [0, 1, 2, 3, 6] rd4 (Ly.run ctxH 73 [(0, true), (4, true), (3, true), (2, true), (4, false), (1, true)] (Ly.start Try.f4 [svV s (sl 0 (n + 1)) (sls 1 (k + 1)), sl 2 c, .int .i64 st] (mkH [some (ints .u8 f (n + 1)), some (bytes2 fa fb (k + 1)), some (ints .u8 fc c)]))) = (true, [tLi n, tLn k, tC c, tS st, tMx n, tR1 k], true, (Try.f4, k4, some 17, 3), v4 c st 0 (sls 4 (0 + (k + 1))), os4 s (sl 0 (n + 1)) (sls 1 (k + 1)) (ints .u8 f (n + 1)) (bytes2 fa fb (k + 1)) c fc (rowG (sh (bbG fa fb)) (k + 1))) := by kernel_rfl
theorem l4_RR (ht : Tail4) (s : Sv) (n k c : Nat) (f fa fb fc : Nat → Int) (st : Int) (hs : s.Ok) (hn : n + 1 ≤ 256) (hf : ∀ e, e < n + 1 → B8 (f e)) (hk : k + 1 ≤ 300) (hb : ∀ e, e < k + 1 → B16 (fa e) ∧ B8 (fb e)) (hst : st ≤ 300) (hc : c ≤ 200) (hfc : ∀ e, e < c → B8 (fc e)) : LCalls Try.prog 4 [svV s (sl 0 (n + 1)) (sls 1 (k + 1)), sl 2 c, .int .i64 st] (mkH [some (ints .u8 f (n + 1)), some (bytes2 fa fb (k + 1)), some (ints .u8 fc c)]) (fun u _ => u = .bool true) := by
  refine LCalls_of ctxH_ok gL4 (by kernel_rfl) (MWp.head ctxH_ok _ _ _ _ (h4_RR s n k c f fa fb fc st) (tr_cons (tLi_ok (by omega)) (tr_cons (tLn_ok hk) (tr_cons (tC_ok hc) (tr_cons (tS_ok hst) (tr_cons (tMx_ok hn) (tr_cons (tR1_ok (by omega)) trivial)))))) (plain4 (Gn.bb fa fb).sh) ?_)
  refine MWp.weak (os4_weak _ _ _ _ _ _ _ _) ?_
  rw [Nat.zero_add]
  exact loop4_R ht s n (k + 1) c f fa fb fc st hs hn hf hst hfc hc c (k + 1) (sh (bbG fa fb)) 0 (Gok.bb hb).shift (Gn.bb fa fb).sh (by omega) (by omega) (by omega) (by omega)
end Go.Proofs.Ytpggoincnebfnaa
namespace Go.Proofs.Ytpggoincnebfnaa
open Go Go.Ly Go.RowKit
def k4b : List KI := ((Ly.run ctxH 60 [] (behind (atSt Try.f4 k4z (some 68) 2 (v4z 0 1 0) H0) (cntV 0 0) H0)).st rd4).top.k
def v4b (p r : Nat) (st c k : Int) : List Value := slots 106 [(9, ptr p), (10, ptr r), (12, .int .i64 c), (13, .int .i64 k), (85, ptr r), (86, .int .i64 st)]
def k4c : List KI := ((Ly.run ctxH 60 [] (behind (atSt Try.f4 k4b (some 68) 2 (v4b 0 1 0 0 0) H0) (cntV 0 0) H0)).st rd4).top.k
def v4c (p r : Nat) : List Value := slots 106 [(98, .bool true), (99, ptr p), (100, ptr r)]
theorem call4a (p r b : Nat) (st : Int) (H : Heap) : callOf env (atSt Try.f4 k4z (some 68) b (v4z p r st) H) = some (16, [ptr p, .int .i64 st]) := by kernel_rfl
theorem run4a (p r b : Nat) (st c k : Int) (H H' : Heap) : haltF [9, 10, 12, 13, 85, 86] rd4 (Ly.run ctxH 60 [] (behind (atSt Try.f4 k4z (some 68) b (v4z p r st) H) (cntV c k) H')) = (true, [], true, (Try.f4, k4b, some 68, b), v4b p r st c k, H') := by kernel_rfl
theorem call4b (p r b : Nat) (st c k : Int) (H : Heap) : callOf env (atSt Try.f4 k4b (some 68) b (v4b p r st c k) H) = some (17, [ptr r, .int .i64 st]) := by kernel_rfl
theorem run4b (p r b : Nat) (st c k : Int) (H H' : Heap) : haltF [98, 99, 100] rd4 (Ly.run ctxH 60 [(0, true), (3, true)] (behind (atSt Try.f4 k4b (some 68) b (v4b p r st c k) H) (cntV c k) H')) = (true, [((c == c) == true, true), ((k == k) == true, true)], true, (Try.f4, k4c, some 68, b), v4c p r, H') := by kernel_rfl
theorem call4c (p r b : Nat) (H : Heap) : callOf env (atSt Try.f4 k4c (some 68) b (v4c p r) H) = some (15, [ptr p, ptr r]) := by kernel_rfl
theorem run4c (p r b : Nat) (H H' : Heap) : (Ly.run ctxH 60 [] (behind (atSt Try.f4 k4c (some 68) b (v4c p r) H) (.bool true) H')).fin? = some ([], .bool true, H') := by kernel_rfl
theorem tail4 : Tail4 := by
  intro H p r b s O V O2 V2 st ho hs hq hN hnx hst
  have hbig : big = 2147483000 := rfl
  have hst' : st.toNat ≤ 300 := by omega
  refine MWp.ltn fun hlt _ => ?_
  obtain ⟨s', c, k, hs', hq', hn', hP, hR⟩ := run_any st (by omega) s hs (by omega)
  refine MWp.call envOk (call4a p r b st H) (hP H p O V ho.P ho.lock ho.clean (by show H.next + 64 * st.toNat < big; omega)) ?_
  rintro v H1 ⟨rfl, hN1, O1, V1, hM1, hO1, hV1⟩
  have hT1 := ho.two.stepP hlt hN1 hM1 hV1
  refine MWp.halted ctxH_ok _ _ _ (run4a p r b st c k H H1) trivial ?_
  refine MWp.ltn fun hlt1 _ => ?_
  have g1 := hN1.ge
  refine MWp.call envOk (call4b p r b st c k H1) (hR H1 r O2 V2 hT1.R hT1.lock hT1.clean (by omega)) ?_
  rintro v H2 ⟨rfl, hN2, O3, V3, hM2, hO3, hV3⟩
  have hT2 := hT1.stepR hlt1 hN2 hM2 hV3
  have g2 := hN2.ge
  refine MWp.halted ctxH_ok _ _ _ (run4b p r b st c k H1 H2) ⟨by simp, by simp, trivial⟩ ?_
  refine MWp.call envOk (call4c p r b H2) (hT2.same (by show H2.next + 16 < big; omega) (by rw [hn']; omega) (by omega)) ?_
  rintro v H3 rfl
  exact MWp.fin ctxH_ok 60 _ (run4c p r b H2 H3) trivial rfl
end Go.Proofs.Ytpggoincnebfnaa
namespace Go.Proofs.Ytpggoincnebfnaa
open Go Go.Ly Go.RowKit
theorem no_Li {n : Nat} (h : ¬ n + 1 ≤ 300) : trusted [((tLi n).1, false)] := ⟨by show (decide (((n + 1 : Nat) : Int) ≤ 300) == true) = false; rw [decide_eq_false (by omega)]; rfl, trivial⟩
theorem no_Mx {n : Nat} (h : ¬ n + 1 ≤ 256) : trusted [((tMx n).1, true)] := ⟨by show decide ((256 : Int) < ((n + 1 : Nat) : Int)) = true; exact decide_eq_true (by omega), trivial⟩
def CRow (w : World) (fc : Nat → Int) (c : Nat) (loc v : Value) (p : Option Plc) : Prop := (loc = .slice none 0 0 ∧ v = .slice none 0 0 ∧ c = 0 ∧ p = none) ∨ (loc = sl 2 c ∧ RealRows w 1 (fun e _ => .int .u8 (fc e)) c v p)
theorem calls_startC {W : World} {F : FuncId} {s : Sv} {f a b fc : Nat → Int} {n k c : Nat} {li lm lc iv mv cv : Value} {pi pm pc : Option Plc} {rest : List Value} (hi : InRow W 0 f n li iv pi) (hm : MRowS W 1 a b k lm mv pm) (hc : CRow W fc c lc cv pc) (hp : plainL rest = true)
    (h : LCalls Try.prog F (svV s li lm :: lc :: rest) (mkH [some (ints .u8 f n), some (bytes2 a b k), some (ints .u8 fc c)]) (fun u _ => u = .bool true)) :
    Calls Try.prog F ⟨svV s iv mv :: cv :: rest⟩ W (fun e W' => e = .returned (.bool true) ∧ Below W.heap.size W W') := by
  have hrep : Rep (rowsRenW [pi, pm, pc] (fun i => if i = 1 then 2 else 1)) (mkH [some (ints .u8 f n), some (bytes2 a b k), some (ints .u8 fc c)]) W := by
    refine rowsW_rep (l := [pi, pm, pc]) (rs := [(1, fun e _ => .int .u8 (f e), n), (2, fun e j => match j with | 0 => .int .u16 (a e) | _ + 1 => .int .u8 (b e), k), (1, fun e _ => .int .u8 (fc e), c)]) rfl (by simp) (fun i q hq => ?_) (fun i k' g n' hr => ?_)
    · match i, hq with
      | 0, hq =>
        simp at hq
        rcases hi with ⟨_, _, _, rfl⟩ | ⟨_, hr⟩
        · cases hq
        · exact hr.low q hq
      | 1, hq =>
        simp at hq
        rcases hm with ⟨_, _, _, rfl⟩ | ⟨_, hr⟩
        · cases hq
        · exact hr.low q hq
      | 2, hq =>
        simp at hq
        rcases hc with ⟨_, _, _, rfl⟩ | ⟨_, hr⟩
        · cases hq
        · exact hr.low q hq
      | i + 3, hq => simp at hq
    · match i, hr with
      | 0, hr =>
        simp at hr
        obtain ⟨rfl, rfl, rfl⟩ := hr
        refine ⟨rfl, fun e j he hj => ?_⟩
        rcases hi with ⟨_, _, h0, _⟩ | ⟨_, hr⟩
        · omega
        · exact ⟨hr.one e j he hj, hr.cell e j he hj⟩
      | 1, hr =>
        simp at hr
        obtain ⟨rfl, rfl, rfl⟩ := hr
        refine ⟨rfl, fun e j he hj => ?_⟩
        rcases hm with ⟨_, _, h0, _⟩ | ⟨_, hr⟩
        · omega
        · exact ⟨hr.one e j he hj, hr.cell e j he hj⟩
      | 2, hr =>
        simp at hr
        obtain ⟨rfl, rfl, rfl⟩ := hr
        refine ⟨rfl, fun e j he hj => ?_⟩
        rcases hc with ⟨_, _, h0, _⟩ | ⟨_, hr⟩
        · omega
        · exact ⟨hr.one e j he hj, hr.cell e j he hj⟩
      | i + 3, hr => simp at hr
  have vi : VR (rowsRenW [pi, pm, pc] (fun i => if i = 1 then 2 else 1)) li iv := by
    rcases hi with ⟨rfl, rfl, _, _⟩ | ⟨rfl, hr⟩
    · simp [VR]
    · exact slW_VR hr rfl
  have vm : VR (rowsRenW [pi, pm, pc] (fun i => if i = 1 then 2 else 1)) lm mv := by
    rcases hm with ⟨rfl, rfl, _, _⟩ | ⟨rfl, hr⟩
    · simp [VR]
    · exact VR_sls (slW_VR hr rfl)
  have vc : VR (rowsRenW [pi, pm, pc] (fun i => if i = 1 then 2 else 1)) lc cv := by
    rcases hc with ⟨rfl, rfl, _, _⟩ | ⟨rfl, hr⟩
    · simp [VR]
    · exact slW_VR hr rfl
  have hro : ∀ i, (rowsRenW [pi, pm, pc] (fun i => if i = 1 then 2 else 1)).ro i = true := fun _ => rfl
  refine calls_ro h rfl ?_ hrep hro
  simp only [VRL]
  refine ⟨_, _, ?_, ⟨_, rest, vc, plainL_VR _ hp, rfl⟩, rfl⟩
  simp only [svV, VR, VRL]
  exact ⟨_, ⟨_, _, rfl, ⟨_, _, rfl, ⟨_, _, rfl, ⟨_, _, rfl, ⟨_, _, rfl, ⟨_, _, rfl, ⟨_, _, rfl, ⟨_, _, rfl, ⟨_, _, rfl, ⟨_, _, rfl, ⟨_, _, rfl, ⟨_, _, rfl, ⟨_, _, rfl, ⟨_, _, rfl, ⟨_, _, rfl, ⟨_, _, rfl, ⟨_, _, vi, ⟨_, _, vm, rfl, rfl⟩, rfl⟩, rfl⟩, rfl⟩, rfl⟩, rfl⟩, rfl⟩, rfl⟩, rfl⟩, rfl⟩, rfl⟩, rfl⟩, rfl⟩, rfl⟩, rfl⟩, rfl⟩, rfl⟩, rfl⟩, rfl⟩
theorem q4_NNN0 (s : Sv) (n k c : Nat) (f fa fb fc : Nat → Int) (st : Int) : endsAt [] (Ly.run ctxH 9000 [(12, false)] (Ly.start Try.f4 [svV s nilS nilS, nilS, .int .i64 st] (mkH [some (ints .u8 f n), some (bytes2 fa fb k), some (ints .u8 fc c)]))) = some ([((tS st).1, false)], .bool true, 5, []) := by kernel_rfl
theorem w4_NNN (s : Sv) (n k c : Nat) (f fa fb fc : Nat → Int) (st : Int) (hs : s.Ok) : LCalls Try.prog 4 [svV s nilS nilS, nilS, .int .i64 st] (mkH [some (ints .u8 f n), some (bytes2 fa fb k), some (ints .u8 fc c)]) (fun u _ => u = .bool true) := by
  rcases Int.lt_or_le 300 st with hst | hst
  · exact (Ends.of_run ctxH_ok 9000 _ gL4 (by kernel_rfl) (q4_NNN0 s n k c f fa fb fc st) (tr_cons (tS_no (by omega)) trivial)).mono (fun u K h => h.1)
  exact g4_NNN tail4 s n k c f fa fb fc st hs hst
theorem q4_NNC0 (s : Sv) (n k c : Nat) (f fa fb fc : Nat → Int) (st : Int) : endsAt [] (Ly.run ctxH 9000 [(9, false)] (Ly.start Try.f4 [svV s nilS nilS, sl 2 c, .int .i64 st] (mkH [some (ints .u8 f n), some (bytes2 fa fb k), some (ints .u8 fc c)]))) = some ([((tC c).1, false)], .bool true, 5, []) := by kernel_rfl
theorem q4_NNC1 (s : Sv) (n k c : Nat) (f fa fb fc : Nat → Int) (st : Int) : endsAt [] (Ly.run ctxH 9000 [(9, true), (2, false)] (Ly.start Try.f4 [svV s nilS nilS, sl 2 c, .int .i64 st] (mkH [some (ints .u8 f n), some (bytes2 fa fb k), some (ints .u8 fc c)]))) = some ([tC c, ((tS st).1, false)], .bool true, 5, []) := by kernel_rfl
theorem w4_NNC (s : Sv) (n k c : Nat) (f fa fb fc : Nat → Int) (st : Int) (hs : s.Ok) (hfc : ∀ e, e < c → B8 (fc e)) : LCalls Try.prog 4 [svV s nilS nilS, sl 2 c, .int .i64 st] (mkH [some (ints .u8 f n), some (bytes2 fa fb k), some (ints .u8 fc c)]) (fun u _ => u = .bool true) := by
  rcases Nat.lt_or_ge 200 c with hc | hc
  · exact (Ends.of_run ctxH_ok 9000 _ gL4 (by kernel_rfl) (q4_NNC0 s n k c f fa fb fc st) (tr_cons (tC_no (by omega)) trivial)).mono (fun u K h => h.1)
  rcases Int.lt_or_le 300 st with hst | hst
  · exact (Ends.of_run ctxH_ok 9000 _ gL4 (by kernel_rfl) (q4_NNC1 s n k c f fa fb fc st) (tr_cons (tC_ok (by omega)) (tr_cons (tS_no (by omega)) trivial))).mono (fun u K h => h.1)
  exact l4_NN tail4 s n k c f fa fb fc st hs hst hc hfc
theorem q4_NEN0 (s : Sv) (n k c : Nat) (f fa fb fc : Nat → Int) (st : Int) : endsAt [] (Ly.run ctxH 9000 [(12, false)] (Ly.start Try.f4 [svV s nilS (sls 1 0), nilS, .int .i64 st] (mkH [some (ints .u8 f n), some (bytes2 fa fb 0), some (ints .u8 fc c)]))) = some ([((tS st).1, false)], .bool true, 5, []) := by kernel_rfl
theorem w4_NEN (s : Sv) (n k c : Nat) (f fa fb fc : Nat → Int) (st : Int) (hs : s.Ok) : LCalls Try.prog 4 [svV s nilS (sls 1 0), nilS, .int .i64 st] (mkH [some (ints .u8 f n), some (bytes2 fa fb 0), some (ints .u8 fc c)]) (fun u _ => u = .bool true) := by
  rcases Int.lt_or_le 300 st with hst | hst
  · exact (Ends.of_run ctxH_ok 9000 _ gL4 (by kernel_rfl) (q4_NEN0 s n k c f fa fb fc st) (tr_cons (tS_no (by omega)) trivial)).mono (fun u K h => h.1)
  exact g4_NEN tail4 s n k c f fa fb fc st hs hst
theorem q4_NEC0 (s : Sv) (n k c : Nat) (f fa fb fc : Nat → Int) (st : Int) : endsAt [] (Ly.run ctxH 9000 [(9, false)] (Ly.start Try.f4 [svV s nilS (sls 1 0), sl 2 c, .int .i64 st] (mkH [some (ints .u8 f n), some (bytes2 fa fb 0), some (ints .u8 fc c)]))) = some ([((tC c).1, false)], .bool true, 5, []) := by kernel_rfl
theorem q4_NEC1 (s : Sv) (n k c : Nat) (f fa fb fc : Nat → Int) (st : Int) : endsAt [] (Ly.run ctxH 9000 [(9, true), (2, false)] (Ly.start Try.f4 [svV s nilS (sls 1 0), sl 2 c, .int .i64 st] (mkH [some (ints .u8 f n), some (bytes2 fa fb 0), some (ints .u8 fc c)]))) = some ([tC c, ((tS st).1, false)], .bool true, 5, []) := by kernel_rfl
theorem w4_NEC (s : Sv) (n k c : Nat) (f fa fb fc : Nat → Int) (st : Int) (hs : s.Ok) (hfc : ∀ e, e < c → B8 (fc e)) : LCalls Try.prog 4 [svV s nilS (sls 1 0), sl 2 c, .int .i64 st] (mkH [some (ints .u8 f n), some (bytes2 fa fb 0), some (ints .u8 fc c)]) (fun u _ => u = .bool true) := by
  rcases Nat.lt_or_ge 200 c with hc | hc
  · exact (Ends.of_run ctxH_ok 9000 _ gL4 (by kernel_rfl) (q4_NEC0 s n k c f fa fb fc st) (tr_cons (tC_no (by omega)) trivial)).mono (fun u K h => h.1)
  rcases Int.lt_or_le 300 st with hst | hst
  · exact (Ends.of_run ctxH_ok 9000 _ gL4 (by kernel_rfl) (q4_NEC1 s n k c f fa fb fc st) (tr_cons (tC_ok (by omega)) (tr_cons (tS_no (by omega)) trivial))).mono (fun u K h => h.1)
  exact l4_NE tail4 s n k c f fa fb fc st hs hst hc hfc
theorem q4_NRN0 (s : Sv) (n k c : Nat) (f fa fb fc : Nat → Int) (st : Int) : endsAt [] (Ly.run ctxH 9000 [(5, false)] (Ly.start Try.f4 [svV s nilS (sls 1 (k + 1)), nilS, .int .i64 st] (mkH [some (ints .u8 f n), some (bytes2 fa fb (k + 1)), some (ints .u8 fc c)]))) = some ([((tLn k).1, false)], .bool true, 5, []) := by kernel_rfl
theorem q4_NRN1 (s : Sv) (n k c : Nat) (f fa fb fc : Nat → Int) (st : Int) : endsAt [] (Ly.run ctxH 9000 [(5, true), (6, false)] (Ly.start Try.f4 [svV s nilS (sls 1 (k + 1)), nilS, .int .i64 st] (mkH [some (ints .u8 f n), some (bytes2 fa fb (k + 1)), some (ints .u8 fc c)]))) = some ([tLn k, ((tS st).1, false)], .bool true, 5, []) := by kernel_rfl
theorem w4_NRN (s : Sv) (n k c : Nat) (f fa fb fc : Nat → Int) (st : Int) (hs : s.Ok) (hb : ∀ e, e < k + 1 → B16 (fa e) ∧ B8 (fb e)) : LCalls Try.prog 4 [svV s nilS (sls 1 (k + 1)), nilS, .int .i64 st] (mkH [some (ints .u8 f n), some (bytes2 fa fb (k + 1)), some (ints .u8 fc c)]) (fun u _ => u = .bool true) := by
  rcases Nat.lt_or_ge 300 (k + 1) with hk | hk
  · exact (Ends.of_run ctxH_ok 9000 _ gL4 (by kernel_rfl) (q4_NRN0 s n k c f fa fb fc st) (tr_cons (tLn_no (by omega)) trivial)).mono (fun u K h => h.1)
  rcases Int.lt_or_le 300 st with hst | hst
  · exact (Ends.of_run ctxH_ok 9000 _ gL4 (by kernel_rfl) (q4_NRN1 s n k c f fa fb fc st) (tr_cons (tLn_ok (by omega)) (tr_cons (tS_no (by omega)) trivial))).mono (fun u K h => h.1)
  exact g4_NRN tail4 s n k c f fa fb fc st hs hk hb hst
theorem q4_NRC0 (s : Sv) (n k c : Nat) (f fa fb fc : Nat → Int) (st : Int) : endsAt [] (Ly.run ctxH 9000 [(5, false)] (Ly.start Try.f4 [svV s nilS (sls 1 (k + 1)), sl 2 c, .int .i64 st] (mkH [some (ints .u8 f n), some (bytes2 fa fb (k + 1)), some (ints .u8 fc c)]))) = some ([((tLn k).1, false)], .bool true, 5, []) := by kernel_rfl
theorem q4_NRC1 (s : Sv) (n k c : Nat) (f fa fb fc : Nat → Int) (st : Int) : endsAt [] (Ly.run ctxH 9000 [(5, true), (3, false)] (Ly.start Try.f4 [svV s nilS (sls 1 (k + 1)), sl 2 c, .int .i64 st] (mkH [some (ints .u8 f n), some (bytes2 fa fb (k + 1)), some (ints .u8 fc c)]))) = some ([tLn k, ((tC c).1, false)], .bool true, 5, []) := by kernel_rfl
theorem q4_NRC2 (s : Sv) (n k c : Nat) (f fa fb fc : Nat → Int) (st : Int) : endsAt [] (Ly.run ctxH 9000 [(5, true), (3, true), (2, false)] (Ly.start Try.f4 [svV s nilS (sls 1 (k + 1)), sl 2 c, .int .i64 st] (mkH [some (ints .u8 f n), some (bytes2 fa fb (k + 1)), some (ints .u8 fc c)]))) = some ([tLn k, tC c, ((tS st).1, false)], .bool true, 5, []) := by kernel_rfl
theorem w4_NRC (s : Sv) (n k c : Nat) (f fa fb fc : Nat → Int) (st : Int) (hs : s.Ok) (hb : ∀ e, e < k + 1 → B16 (fa e) ∧ B8 (fb e)) (hfc : ∀ e, e < c → B8 (fc e)) : LCalls Try.prog 4 [svV s nilS (sls 1 (k + 1)), sl 2 c, .int .i64 st] (mkH [some (ints .u8 f n), some (bytes2 fa fb (k + 1)), some (ints .u8 fc c)]) (fun u _ => u = .bool true) := by
  rcases Nat.lt_or_ge 300 (k + 1) with hk | hk
  · exact (Ends.of_run ctxH_ok 9000 _ gL4 (by kernel_rfl) (q4_NRC0 s n k c f fa fb fc st) (tr_cons (tLn_no (by omega)) trivial)).mono (fun u K h => h.1)
  rcases Nat.lt_or_ge 200 c with hc | hc
  · exact (Ends.of_run ctxH_ok 9000 _ gL4 (by kernel_rfl) (q4_NRC1 s n k c f fa fb fc st) (tr_cons (tLn_ok (by omega)) (tr_cons (tC_no (by omega)) trivial))).mono (fun u K h => h.1)
  rcases Int.lt_or_le 300 st with hst | hst
  · exact (Ends.of_run ctxH_ok 9000 _ gL4 (by kernel_rfl) (q4_NRC2 s n k c f fa fb fc st) (tr_cons (tLn_ok (by omega)) (tr_cons (tC_ok (by omega)) (tr_cons (tS_no (by omega)) trivial)))).mono (fun u K h => h.1)
  exact l4_NR tail4 s n k c f fa fb fc st hs hk hb hst hc hfc
theorem q4_ENN0 (s : Sv) (n k c : Nat) (f fa fb fc : Nat → Int) (st : Int) : endsAt [] (Ly.run ctxH 9000 [(12, false)] (Ly.start Try.f4 [svV s (sl 0 0) nilS, nilS, .int .i64 st] (mkH [some (ints .u8 f 0), some (bytes2 fa fb k), some (ints .u8 fc c)]))) = some ([((tS st).1, false)], .bool true, 5, []) := by kernel_rfl
theorem w4_ENN (s : Sv) (n k c : Nat) (f fa fb fc : Nat → Int) (st : Int) (hs : s.Ok) : LCalls Try.prog 4 [svV s (sl 0 0) nilS, nilS, .int .i64 st] (mkH [some (ints .u8 f 0), some (bytes2 fa fb k), some (ints .u8 fc c)]) (fun u _ => u = .bool true) := by
  rcases Int.lt_or_le 300 st with hst | hst
  · exact (Ends.of_run ctxH_ok 9000 _ gL4 (by kernel_rfl) (q4_ENN0 s n k c f fa fb fc st) (tr_cons (tS_no (by omega)) trivial)).mono (fun u K h => h.1)
  exact g4_ENN tail4 s n k c f fa fb fc st hs hst
theorem q4_ENC0 (s : Sv) (n k c : Nat) (f fa fb fc : Nat → Int) (st : Int) : endsAt [] (Ly.run ctxH 9000 [(9, false)] (Ly.start Try.f4 [svV s (sl 0 0) nilS, sl 2 c, .int .i64 st] (mkH [some (ints .u8 f 0), some (bytes2 fa fb k), some (ints .u8 fc c)]))) = some ([((tC c).1, false)], .bool true, 5, []) := by kernel_rfl
theorem q4_ENC1 (s : Sv) (n k c : Nat) (f fa fb fc : Nat → Int) (st : Int) : endsAt [] (Ly.run ctxH 9000 [(9, true), (2, false)] (Ly.start Try.f4 [svV s (sl 0 0) nilS, sl 2 c, .int .i64 st] (mkH [some (ints .u8 f 0), some (bytes2 fa fb k), some (ints .u8 fc c)]))) = some ([tC c, ((tS st).1, false)], .bool true, 5, []) := by kernel_rfl
theorem w4_ENC (s : Sv) (n k c : Nat) (f fa fb fc : Nat → Int) (st : Int) (hs : s.Ok) (hfc : ∀ e, e < c → B8 (fc e)) : LCalls Try.prog 4 [svV s (sl 0 0) nilS, sl 2 c, .int .i64 st] (mkH [some (ints .u8 f 0), some (bytes2 fa fb k), some (ints .u8 fc c)]) (fun u _ => u = .bool true) := by
  rcases Nat.lt_or_ge 200 c with hc | hc
  · exact (Ends.of_run ctxH_ok 9000 _ gL4 (by kernel_rfl) (q4_ENC0 s n k c f fa fb fc st) (tr_cons (tC_no (by omega)) trivial)).mono (fun u K h => h.1)
  rcases Int.lt_or_le 300 st with hst | hst
  · exact (Ends.of_run ctxH_ok 9000 _ gL4 (by kernel_rfl) (q4_ENC1 s n k c f fa fb fc st) (tr_cons (tC_ok (by omega)) (tr_cons (tS_no (by omega)) trivial))).mono (fun u K h => h.1)
  exact l4_EN tail4 s n k c f fa fb fc st hs hst hc hfc
theorem q4_EEN0 (s : Sv) (n k c : Nat) (f fa fb fc : Nat → Int) (st : Int) : endsAt [] (Ly.run ctxH 9000 [(12, false)] (Ly.start Try.f4 [svV s (sl 0 0) (sls 1 0), nilS, .int .i64 st] (mkH [some (ints .u8 f 0), some (bytes2 fa fb 0), some (ints .u8 fc c)]))) = some ([((tS st).1, false)], .bool true, 5, []) := by kernel_rfl
theorem w4_EEN (s : Sv) (n k c : Nat) (f fa fb fc : Nat → Int) (st : Int) (hs : s.Ok) : LCalls Try.prog 4 [svV s (sl 0 0) (sls 1 0), nilS, .int .i64 st] (mkH [some (ints .u8 f 0), some (bytes2 fa fb 0), some (ints .u8 fc c)]) (fun u _ => u = .bool true) := by
  rcases Int.lt_or_le 300 st with hst | hst
  · exact (Ends.of_run ctxH_ok 9000 _ gL4 (by kernel_rfl) (q4_EEN0 s n k c f fa fb fc st) (tr_cons (tS_no (by omega)) trivial)).mono (fun u K h => h.1)
  exact g4_EEN tail4 s n k c f fa fb fc st hs hst
theorem q4_EEC0 (s : Sv) (n k c : Nat) (f fa fb fc : Nat → Int) (st : Int) : endsAt [] (Ly.run ctxH 9000 [(9, false)] (Ly.start Try.f4 [svV s (sl 0 0) (sls 1 0), sl 2 c, .int .i64 st] (mkH [some (ints .u8 f 0), some (bytes2 fa fb 0), some (ints .u8 fc c)]))) = some ([((tC c).1, false)], .bool true, 5, []) := by kernel_rfl
theorem q4_EEC1 (s : Sv) (n k c : Nat) (f fa fb fc : Nat → Int) (st : Int) : endsAt [] (Ly.run ctxH 9000 [(9, true), (2, false)] (Ly.start Try.f4 [svV s (sl 0 0) (sls 1 0), sl 2 c, .int .i64 st] (mkH [some (ints .u8 f 0), some (bytes2 fa fb 0), some (ints .u8 fc c)]))) = some ([tC c, ((tS st).1, false)], .bool true, 5, []) := by kernel_rfl
theorem w4_EEC (s : Sv) (n k c : Nat) (f fa fb fc : Nat → Int) (st : Int) (hs : s.Ok) (hfc : ∀ e, e < c → B8 (fc e)) : LCalls Try.prog 4 [svV s (sl 0 0) (sls 1 0), sl 2 c, .int .i64 st] (mkH [some (ints .u8 f 0), some (bytes2 fa fb 0), some (ints .u8 fc c)]) (fun u _ => u = .bool true) := by
  rcases Nat.lt_or_ge 200 c with hc | hc
  · exact (Ends.of_run ctxH_ok 9000 _ gL4 (by kernel_rfl) (q4_EEC0 s n k c f fa fb fc st) (tr_cons (tC_no (by omega)) trivial)).mono (fun u K h => h.1)
  rcases Int.lt_or_le 300 st with hst | hst
  · exact (Ends.of_run ctxH_ok 9000 _ gL4 (by kernel_rfl) (q4_EEC1 s n k c f fa fb fc st) (tr_cons (tC_ok (by omega)) (tr_cons (tS_no (by omega)) trivial))).mono (fun u K h => h.1)
  exact l4_EE tail4 s n k c f fa fb fc st hs hst hc hfc
theorem q4_ERN0 (s : Sv) (n k c : Nat) (f fa fb fc : Nat → Int) (st : Int) : endsAt [] (Ly.run ctxH 9000 [(5, false)] (Ly.start Try.f4 [svV s (sl 0 0) (sls 1 (k + 1)), nilS, .int .i64 st] (mkH [some (ints .u8 f 0), some (bytes2 fa fb (k + 1)), some (ints .u8 fc c)]))) = some ([((tLn k).1, false)], .bool true, 5, []) := by kernel_rfl
theorem q4_ERN1 (s : Sv) (n k c : Nat) (f fa fb fc : Nat → Int) (st : Int) : endsAt [] (Ly.run ctxH 9000 [(5, true), (6, false)] (Ly.start Try.f4 [svV s (sl 0 0) (sls 1 (k + 1)), nilS, .int .i64 st] (mkH [some (ints .u8 f 0), some (bytes2 fa fb (k + 1)), some (ints .u8 fc c)]))) = some ([tLn k, ((tS st).1, false)], .bool true, 5, []) := by kernel_rfl
theorem w4_ERN (s : Sv) (n k c : Nat) (f fa fb fc : Nat → Int) (st : Int) (hs : s.Ok) (hb : ∀ e, e < k + 1 → B16 (fa e) ∧ B8 (fb e)) : LCalls Try.prog 4 [svV s (sl 0 0) (sls 1 (k + 1)), nilS, .int .i64 st] (mkH [some (ints .u8 f 0), some (bytes2 fa fb (k + 1)), some (ints .u8 fc c)]) (fun u _ => u = .bool true) := by
  rcases Nat.lt_or_ge 300 (k + 1) with hk | hk
  · exact (Ends.of_run ctxH_ok 9000 _ gL4 (by kernel_rfl) (q4_ERN0 s n k c f fa fb fc st) (tr_cons (tLn_no (by omega)) trivial)).mono (fun u K h => h.1)
  rcases Int.lt_or_le 300 st with hst | hst
  · exact (Ends.of_run ctxH_ok 9000 _ gL4 (by kernel_rfl) (q4_ERN1 s n k c f fa fb fc st) (tr_cons (tLn_ok (by omega)) (tr_cons (tS_no (by omega)) trivial))).mono (fun u K h => h.1)
  exact g4_ERN tail4 s n k c f fa fb fc st hs hk hb hst
theorem q4_ERC0 (s : Sv) (n k c : Nat) (f fa fb fc : Nat → Int) (st : Int) : endsAt [] (Ly.run ctxH 9000 [(5, false)] (Ly.start Try.f4 [svV s (sl 0 0) (sls 1 (k + 1)), sl 2 c, .int .i64 st] (mkH [some (ints .u8 f 0), some (bytes2 fa fb (k + 1)), some (ints .u8 fc c)]))) = some ([((tLn k).1, false)], .bool true, 5, []) := by kernel_rfl
theorem q4_ERC1 (s : Sv) (n k c : Nat) (f fa fb fc : Nat → Int) (st : Int) : endsAt [] (Ly.run ctxH 9000 [(5, true), (3, false)] (Ly.start Try.f4 [svV s (sl 0 0) (sls 1 (k + 1)), sl 2 c, .int .i64 st] (mkH [some (ints .u8 f 0), some (bytes2 fa fb (k + 1)), some (ints .u8 fc c)]))) = some ([tLn k, ((tC c).1, false)], .bool true, 5, []) := by kernel_rfl
theorem q4_ERC2 (s : Sv) (n k c : Nat) (f fa fb fc : Nat → Int) (st : Int) : endsAt [] (Ly.run ctxH 9000 [(5, true), (3, true), (2, false)] (Ly.start Try.f4 [svV s (sl 0 0) (sls 1 (k + 1)), sl 2 c, .int .i64 st] (mkH [some (ints .u8 f 0), some (bytes2 fa fb (k + 1)), some (ints .u8 fc c)]))) = some ([tLn k, tC c, ((tS st).1, false)], .bool true, 5, []) := by kernel_rfl
theorem w4_ERC (s : Sv) (n k c : Nat) (f fa fb fc : Nat → Int) (st : Int) (hs : s.Ok) (hb : ∀ e, e < k + 1 → B16 (fa e) ∧ B8 (fb e)) (hfc : ∀ e, e < c → B8 (fc e)) : LCalls Try.prog 4 [svV s (sl 0 0) (sls 1 (k + 1)), sl 2 c, .int .i64 st] (mkH [some (ints .u8 f 0), some (bytes2 fa fb (k + 1)), some (ints .u8 fc c)]) (fun u _ => u = .bool true) := by
  rcases Nat.lt_or_ge 300 (k + 1) with hk | hk
  · exact (Ends.of_run ctxH_ok 9000 _ gL4 (by kernel_rfl) (q4_ERC0 s n k c f fa fb fc st) (tr_cons (tLn_no (by omega)) trivial)).mono (fun u K h => h.1)
  rcases Nat.lt_or_ge 200 c with hc | hc
  · exact (Ends.of_run ctxH_ok 9000 _ gL4 (by kernel_rfl) (q4_ERC1 s n k c f fa fb fc st) (tr_cons (tLn_ok (by omega)) (tr_cons (tC_no (by omega)) trivial))).mono (fun u K h => h.1)
  rcases Int.lt_or_le 300 st with hst | hst
  · exact (Ends.of_run ctxH_ok 9000 _ gL4 (by kernel_rfl) (q4_ERC2 s n k c f fa fb fc st) (tr_cons (tLn_ok (by omega)) (tr_cons (tC_ok (by omega)) (tr_cons (tS_no (by omega)) trivial)))).mono (fun u K h => h.1)
  exact l4_ER tail4 s n k c f fa fb fc st hs hk hb hst hc hfc
theorem q4_RNN0 (s : Sv) (n k c : Nat) (f fa fb fc : Nat → Int) (st : Int) : endsAt [] (Ly.run ctxH 9000 [(0, false)] (Ly.start Try.f4 [svV s (sl 0 (n + 1)) nilS, nilS, .int .i64 st] (mkH [some (ints .u8 f (n + 1)), some (bytes2 fa fb k), some (ints .u8 fc c)]))) = some ([((tLi n).1, false)], .bool true, 5, []) := by kernel_rfl
theorem q4_RNN1 (s : Sv) (n k c : Nat) (f fa fb fc : Nat → Int) (st : Int) : endsAt [] (Ly.run ctxH 9000 [(0, true), (11, false)] (Ly.start Try.f4 [svV s (sl 0 (n + 1)) nilS, nilS, .int .i64 st] (mkH [some (ints .u8 f (n + 1)), some (bytes2 fa fb k), some (ints .u8 fc c)]))) = some ([tLi n, ((tS st).1, false)], .bool true, 5, []) := by kernel_rfl
theorem q4_RNN2 (s : Sv) (n k c : Nat) (f fa fb fc : Nat → Int) (st : Int) : endsAt [] (Ly.run ctxH 9000 [(0, true), (11, true), (4, true)] (Ly.start Try.f4 [svV s (sl 0 (n + 1)) nilS, nilS, .int .i64 st] (mkH [some (ints .u8 f (n + 1)), some (bytes2 fa fb k), some (ints .u8 fc c)]))) = some ([tLi n, tS st, ((tMx n).1, true)], .bool true, 5, []) := by kernel_rfl
theorem w4_RNN (s : Sv) (n k c : Nat) (f fa fb fc : Nat → Int) (st : Int) (hs : s.Ok) (hf : ∀ e, e < n + 1 → B8 (f e)) : LCalls Try.prog 4 [svV s (sl 0 (n + 1)) nilS, nilS, .int .i64 st] (mkH [some (ints .u8 f (n + 1)), some (bytes2 fa fb k), some (ints .u8 fc c)]) (fun u _ => u = .bool true) := by
  rcases Nat.lt_or_ge 300 (n + 1) with e1 | e1
  · exact (Ends.of_run ctxH_ok 9000 _ gL4 (by kernel_rfl) (q4_RNN0 s n k c f fa fb fc st) (tr_cons (no_Li (by omega)) trivial)).mono (fun u K h => h.1)
  rcases Int.lt_or_le 300 st with hst | hst
  · exact (Ends.of_run ctxH_ok 9000 _ gL4 (by kernel_rfl) (q4_RNN1 s n k c f fa fb fc st) (tr_cons (tLi_ok (by omega)) (tr_cons (tS_no (by omega)) trivial))).mono (fun u K h => h.1)
  rcases Nat.lt_or_ge 256 (n + 1) with hn | hn
  · exact (Ends.of_run ctxH_ok 9000 _ gL4 (by kernel_rfl) (q4_RNN2 s n k c f fa fb fc st) (tr_cons (tLi_ok (by omega)) (tr_cons (tS_ok (by omega)) (tr_cons (no_Mx (by omega)) trivial)))).mono (fun u K h => h.1)
  exact g4_RNN tail4 s n k c f fa fb fc st hs hn hf hst
theorem q4_RNC0 (s : Sv) (n k c : Nat) (f fa fb fc : Nat → Int) (st : Int) : endsAt [] (Ly.run ctxH 9000 [(0, false)] (Ly.start Try.f4 [svV s (sl 0 (n + 1)) nilS, sl 2 c, .int .i64 st] (mkH [some (ints .u8 f (n + 1)), some (bytes2 fa fb k), some (ints .u8 fc c)]))) = some ([((tLi n).1, false)], .bool true, 5, []) := by kernel_rfl
theorem q4_RNC1 (s : Sv) (n k c : Nat) (f fa fb fc : Nat → Int) (st : Int) : endsAt [] (Ly.run ctxH 9000 [(0, true), (8, false)] (Ly.start Try.f4 [svV s (sl 0 (n + 1)) nilS, sl 2 c, .int .i64 st] (mkH [some (ints .u8 f (n + 1)), some (bytes2 fa fb k), some (ints .u8 fc c)]))) = some ([tLi n, ((tC c).1, false)], .bool true, 5, []) := by kernel_rfl
theorem q4_RNC2 (s : Sv) (n k c : Nat) (f fa fb fc : Nat → Int) (st : Int) : endsAt [] (Ly.run ctxH 9000 [(0, true), (8, true), (2, false)] (Ly.start Try.f4 [svV s (sl 0 (n + 1)) nilS, sl 2 c, .int .i64 st] (mkH [some (ints .u8 f (n + 1)), some (bytes2 fa fb k), some (ints .u8 fc c)]))) = some ([tLi n, tC c, ((tS st).1, false)], .bool true, 5, []) := by kernel_rfl
theorem q4_RNC3 (s : Sv) (n k c : Nat) (f fa fb fc : Nat → Int) (st : Int) : endsAt [] (Ly.run ctxH 9000 [(0, true), (8, true), (2, true), (4, true)] (Ly.start Try.f4 [svV s (sl 0 (n + 1)) nilS, sl 2 c, .int .i64 st] (mkH [some (ints .u8 f (n + 1)), some (bytes2 fa fb k), some (ints .u8 fc c)]))) = some ([tLi n, tC c, tS st, ((tMx n).1, true)], .bool true, 5, []) := by kernel_rfl
theorem w4_RNC (s : Sv) (n k c : Nat) (f fa fb fc : Nat → Int) (st : Int) (hs : s.Ok) (hf : ∀ e, e < n + 1 → B8 (f e)) (hfc : ∀ e, e < c → B8 (fc e)) : LCalls Try.prog 4 [svV s (sl 0 (n + 1)) nilS, sl 2 c, .int .i64 st] (mkH [some (ints .u8 f (n + 1)), some (bytes2 fa fb k), some (ints .u8 fc c)]) (fun u _ => u = .bool true) := by
  rcases Nat.lt_or_ge 300 (n + 1) with e1 | e1
  · exact (Ends.of_run ctxH_ok 9000 _ gL4 (by kernel_rfl) (q4_RNC0 s n k c f fa fb fc st) (tr_cons (no_Li (by omega)) trivial)).mono (fun u K h => h.1)
  rcases Nat.lt_or_ge 200 c with hc | hc
  · exact (Ends.of_run ctxH_ok 9000 _ gL4 (by kernel_rfl) (q4_RNC1 s n k c f fa fb fc st) (tr_cons (tLi_ok (by omega)) (tr_cons (tC_no (by omega)) trivial))).mono (fun u K h => h.1)
  rcases Int.lt_or_le 300 st with hst | hst
  · exact (Ends.of_run ctxH_ok 9000 _ gL4 (by kernel_rfl) (q4_RNC2 s n k c f fa fb fc st) (tr_cons (tLi_ok (by omega)) (tr_cons (tC_ok (by omega)) (tr_cons (tS_no (by omega)) trivial)))).mono (fun u K h => h.1)
  rcases Nat.lt_or_ge 256 (n + 1) with hn | hn
  · exact (Ends.of_run ctxH_ok 9000 _ gL4 (by kernel_rfl) (q4_RNC3 s n k c f fa fb fc st) (tr_cons (tLi_ok (by omega)) (tr_cons (tC_ok (by omega)) (tr_cons (tS_ok (by omega)) (tr_cons (no_Mx (by omega)) trivial))))).mono (fun u K h => h.1)
  exact l4_RN tail4 s n k c f fa fb fc st hs hn hf hst hc hfc
theorem q4_REN0 (s : Sv) (n k c : Nat) (f fa fb fc : Nat → Int) (st : Int) : endsAt [] (Ly.run ctxH 9000 [(0, false)] (Ly.start Try.f4 [svV s (sl 0 (n + 1)) (sls 1 0), nilS, .int .i64 st] (mkH [some (ints .u8 f (n + 1)), some (bytes2 fa fb 0), some (ints .u8 fc c)]))) = some ([((tLi n).1, false)], .bool true, 5, []) := by kernel_rfl
theorem q4_REN1 (s : Sv) (n k c : Nat) (f fa fb fc : Nat → Int) (st : Int) : endsAt [] (Ly.run ctxH 9000 [(0, true), (11, false)] (Ly.start Try.f4 [svV s (sl 0 (n + 1)) (sls 1 0), nilS, .int .i64 st] (mkH [some (ints .u8 f (n + 1)), some (bytes2 fa fb 0), some (ints .u8 fc c)]))) = some ([tLi n, ((tS st).1, false)], .bool true, 5, []) := by kernel_rfl
theorem q4_REN2 (s : Sv) (n k c : Nat) (f fa fb fc : Nat → Int) (st : Int) : endsAt [] (Ly.run ctxH 9000 [(0, true), (11, true), (4, true)] (Ly.start Try.f4 [svV s (sl 0 (n + 1)) (sls 1 0), nilS, .int .i64 st] (mkH [some (ints .u8 f (n + 1)), some (bytes2 fa fb 0), some (ints .u8 fc c)]))) = some ([tLi n, tS st, ((tMx n).1, true)], .bool true, 5, []) := by kernel_rfl
theorem w4_REN (s : Sv) (n k c : Nat) (f fa fb fc : Nat → Int) (st : Int) (hs : s.Ok) (hf : ∀ e, e < n + 1 → B8 (f e)) : LCalls Try.prog 4 [svV s (sl 0 (n + 1)) (sls 1 0), nilS, .int .i64 st] (mkH [some (ints .u8 f (n + 1)), some (bytes2 fa fb 0), some (ints .u8 fc c)]) (fun u _ => u = .bool true) := by
  rcases Nat.lt_or_ge 300 (n + 1) with e1 | e1
  · exact (Ends.of_run ctxH_ok 9000 _ gL4 (by kernel_rfl) (q4_REN0 s n k c f fa fb fc st) (tr_cons (no_Li (by omega)) trivial)).mono (fun u K h => h.1)
  rcases Int.lt_or_le 300 st with hst | hst
  · exact (Ends.of_run ctxH_ok 9000 _ gL4 (by kernel_rfl) (q4_REN1 s n k c f fa fb fc st) (tr_cons (tLi_ok (by omega)) (tr_cons (tS_no (by omega)) trivial))).mono (fun u K h => h.1)
  rcases Nat.lt_or_ge 256 (n + 1) with hn | hn
  · exact (Ends.of_run ctxH_ok 9000 _ gL4 (by kernel_rfl) (q4_REN2 s n k c f fa fb fc st) (tr_cons (tLi_ok (by omega)) (tr_cons (tS_ok (by omega)) (tr_cons (no_Mx (by omega)) trivial)))).mono (fun u K h => h.1)
  exact g4_REN tail4 s n k c f fa fb fc st hs hn hf hst
theorem q4_REC0 (s : Sv) (n k c : Nat) (f fa fb fc : Nat → Int) (st : Int) : endsAt [] (Ly.run ctxH 9000 [(0, false)] (Ly.start Try.f4 [svV s (sl 0 (n + 1)) (sls 1 0), sl 2 c, .int .i64 st] (mkH [some (ints .u8 f (n + 1)), some (bytes2 fa fb 0), some (ints .u8 fc c)]))) = some ([((tLi n).1, false)], .bool true, 5, []) := by kernel_rfl
theorem q4_REC1 (s : Sv) (n k c : Nat) (f fa fb fc : Nat → Int) (st : Int) : endsAt [] (Ly.run ctxH 9000 [(0, true), (8, false)] (Ly.start Try.f4 [svV s (sl 0 (n + 1)) (sls 1 0), sl 2 c, .int .i64 st] (mkH [some (ints .u8 f (n + 1)), some (bytes2 fa fb 0), some (ints .u8 fc c)]))) = some ([tLi n, ((tC c).1, false)], .bool true, 5, []) := by kernel_rfl
theorem q4_REC2 (s : Sv) (n k c : Nat) (f fa fb fc : Nat → Int) (st : Int) : endsAt [] (Ly.run ctxH 9000 [(0, true), (8, true), (2, false)] (Ly.start Try.f4 [svV s (sl 0 (n + 1)) (sls 1 0), sl 2 c, .int .i64 st] (mkH [some (ints .u8 f (n + 1)), some (bytes2 fa fb 0), some (ints .u8 fc c)]))) = some ([tLi n, tC c, ((tS st).1, false)], .bool true, 5, []) := by kernel_rfl
theorem q4_REC3 (s : Sv) (n k c : Nat) (f fa fb fc : Nat → Int) (st : Int) : endsAt [] (Ly.run ctxH 9000 [(0, true), (8, true), (2, true), (4, true)] (Ly.start Try.f4 [svV s (sl 0 (n + 1)) (sls 1 0), sl 2 c, .int .i64 st] (mkH [some (ints .u8 f (n + 1)), some (bytes2 fa fb 0), some (ints .u8 fc c)]))) = some ([tLi n, tC c, tS st, ((tMx n).1, true)], .bool true, 5, []) := by kernel_rfl
theorem w4_REC (s : Sv) (n k c : Nat) (f fa fb fc : Nat → Int) (st : Int) (hs : s.Ok) (hf : ∀ e, e < n + 1 → B8 (f e)) (hfc : ∀ e, e < c → B8 (fc e)) : LCalls Try.prog 4 [svV s (sl 0 (n + 1)) (sls 1 0), sl 2 c, .int .i64 st] (mkH [some (ints .u8 f (n + 1)), some (bytes2 fa fb 0), some (ints .u8 fc c)]) (fun u _ => u = .bool true) := by
  rcases Nat.lt_or_ge 300 (n + 1) with e1 | e1
  · exact (Ends.of_run ctxH_ok 9000 _ gL4 (by kernel_rfl) (q4_REC0 s n k c f fa fb fc st) (tr_cons (no_Li (by omega)) trivial)).mono (fun u K h => h.1)
  rcases Nat.lt_or_ge 200 c with hc | hc
  · exact (Ends.of_run ctxH_ok 9000 _ gL4 (by kernel_rfl) (q4_REC1 s n k c f fa fb fc st) (tr_cons (tLi_ok (by omega)) (tr_cons (tC_no (by omega)) trivial))).mono (fun u K h => h.1)
  rcases Int.lt_or_le 300 st with hst | hst
  · exact (Ends.of_run ctxH_ok 9000 _ gL4 (by kernel_rfl) (q4_REC2 s n k c f fa fb fc st) (tr_cons (tLi_ok (by omega)) (tr_cons (tC_ok (by omega)) (tr_cons (tS_no (by omega)) trivial)))).mono (fun u K h => h.1)
  rcases Nat.lt_or_ge 256 (n + 1) with hn | hn
  · exact (Ends.of_run ctxH_ok 9000 _ gL4 (by kernel_rfl) (q4_REC3 s n k c f fa fb fc st) (tr_cons (tLi_ok (by omega)) (tr_cons (tC_ok (by omega)) (tr_cons (tS_ok (by omega)) (tr_cons (no_Mx (by omega)) trivial))))).mono (fun u K h => h.1)
  exact l4_RE tail4 s n k c f fa fb fc st hs hn hf hst hc hfc
theorem q4_RRN0 (s : Sv) (n k c : Nat) (f fa fb fc : Nat → Int) (st : Int) : endsAt [] (Ly.run ctxH 9000 [(0, false)] (Ly.start Try.f4 [svV s (sl 0 (n + 1)) (sls 1 (k + 1)), nilS, .int .i64 st] (mkH [some (ints .u8 f (n + 1)), some (bytes2 fa fb (k + 1)), some (ints .u8 fc c)]))) = some ([((tLi n).1, false)], .bool true, 5, []) := by kernel_rfl
theorem q4_RRN1 (s : Sv) (n k c : Nat) (f fa fb fc : Nat → Int) (st : Int) : endsAt [] (Ly.run ctxH 9000 [(0, true), (4, false)] (Ly.start Try.f4 [svV s (sl 0 (n + 1)) (sls 1 (k + 1)), nilS, .int .i64 st] (mkH [some (ints .u8 f (n + 1)), some (bytes2 fa fb (k + 1)), some (ints .u8 fc c)]))) = some ([tLi n, ((tLn k).1, false)], .bool true, 5, []) := by kernel_rfl
theorem q4_RRN2 (s : Sv) (n k c : Nat) (f fa fb fc : Nat → Int) (st : Int) : endsAt [] (Ly.run ctxH 9000 [(0, true), (4, true), (6, false)] (Ly.start Try.f4 [svV s (sl 0 (n + 1)) (sls 1 (k + 1)), nilS, .int .i64 st] (mkH [some (ints .u8 f (n + 1)), some (bytes2 fa fb (k + 1)), some (ints .u8 fc c)]))) = some ([tLi n, tLn k, ((tS st).1, false)], .bool true, 5, []) := by kernel_rfl
theorem q4_RRN3 (s : Sv) (n k c : Nat) (f fa fb fc : Nat → Int) (st : Int) : endsAt [] (Ly.run ctxH 9000 [(0, true), (4, true), (6, true), (4, true)] (Ly.start Try.f4 [svV s (sl 0 (n + 1)) (sls 1 (k + 1)), nilS, .int .i64 st] (mkH [some (ints .u8 f (n + 1)), some (bytes2 fa fb (k + 1)), some (ints .u8 fc c)]))) = some ([tLi n, tLn k, tS st, ((tMx n).1, true)], .bool true, 5, []) := by kernel_rfl
theorem w4_RRN (s : Sv) (n k c : Nat) (f fa fb fc : Nat → Int) (st : Int) (hs : s.Ok) (hf : ∀ e, e < n + 1 → B8 (f e)) (hb : ∀ e, e < k + 1 → B16 (fa e) ∧ B8 (fb e)) : LCalls Try.prog 4 [svV s (sl 0 (n + 1)) (sls 1 (k + 1)), nilS, .int .i64 st] (mkH [some (ints .u8 f (n + 1)), some (bytes2 fa fb (k + 1)), some (ints .u8 fc c)]) (fun u _ => u = .bool true) := by
  rcases Nat.lt_or_ge 300 (n + 1) with e1 | e1
  · exact (Ends.of_run ctxH_ok 9000 _ gL4 (by kernel_rfl) (q4_RRN0 s n k c f fa fb fc st) (tr_cons (no_Li (by omega)) trivial)).mono (fun u K h => h.1)
  rcases Nat.lt_or_ge 300 (k + 1) with hk | hk
  · exact (Ends.of_run ctxH_ok 9000 _ gL4 (by kernel_rfl) (q4_RRN1 s n k c f fa fb fc st) (tr_cons (tLi_ok (by omega)) (tr_cons (tLn_no (by omega)) trivial))).mono (fun u K h => h.1)
  rcases Int.lt_or_le 300 st with hst | hst
  · exact (Ends.of_run ctxH_ok 9000 _ gL4 (by kernel_rfl) (q4_RRN2 s n k c f fa fb fc st) (tr_cons (tLi_ok (by omega)) (tr_cons (tLn_ok (by omega)) (tr_cons (tS_no (by omega)) trivial)))).mono (fun u K h => h.1)
  rcases Nat.lt_or_ge 256 (n + 1) with hn | hn
  · exact (Ends.of_run ctxH_ok 9000 _ gL4 (by kernel_rfl) (q4_RRN3 s n k c f fa fb fc st) (tr_cons (tLi_ok (by omega)) (tr_cons (tLn_ok (by omega)) (tr_cons (tS_ok (by omega)) (tr_cons (no_Mx (by omega)) trivial))))).mono (fun u K h => h.1)
  exact g4_RRN tail4 s n k c f fa fb fc st hs hn hf hk hb hst
theorem q4_RRC0 (s : Sv) (n k c : Nat) (f fa fb fc : Nat → Int) (st : Int) : endsAt [] (Ly.run ctxH 9000 [(0, false)] (Ly.start Try.f4 [svV s (sl 0 (n + 1)) (sls 1 (k + 1)), sl 2 c, .int .i64 st] (mkH [some (ints .u8 f (n + 1)), some (bytes2 fa fb (k + 1)), some (ints .u8 fc c)]))) = some ([((tLi n).1, false)], .bool true, 5, []) := by kernel_rfl
theorem q4_RRC1 (s : Sv) (n k c : Nat) (f fa fb fc : Nat → Int) (st : Int) : endsAt [] (Ly.run ctxH 9000 [(0, true), (4, false)] (Ly.start Try.f4 [svV s (sl 0 (n + 1)) (sls 1 (k + 1)), sl 2 c, .int .i64 st] (mkH [some (ints .u8 f (n + 1)), some (bytes2 fa fb (k + 1)), some (ints .u8 fc c)]))) = some ([tLi n, ((tLn k).1, false)], .bool true, 5, []) := by kernel_rfl
theorem q4_RRC2 (s : Sv) (n k c : Nat) (f fa fb fc : Nat → Int) (st : Int) : endsAt [] (Ly.run ctxH 9000 [(0, true), (4, true), (3, false)] (Ly.start Try.f4 [svV s (sl 0 (n + 1)) (sls 1 (k + 1)), sl 2 c, .int .i64 st] (mkH [some (ints .u8 f (n + 1)), some (bytes2 fa fb (k + 1)), some (ints .u8 fc c)]))) = some ([tLi n, tLn k, ((tC c).1, false)], .bool true, 5, []) := by kernel_rfl
theorem q4_RRC3 (s : Sv) (n k c : Nat) (f fa fb fc : Nat → Int) (st : Int) : endsAt [] (Ly.run ctxH 9000 [(0, true), (4, true), (3, true), (2, false)] (Ly.start Try.f4 [svV s (sl 0 (n + 1)) (sls 1 (k + 1)), sl 2 c, .int .i64 st] (mkH [some (ints .u8 f (n + 1)), some (bytes2 fa fb (k + 1)), some (ints .u8 fc c)]))) = some ([tLi n, tLn k, tC c, ((tS st).1, false)], .bool true, 5, []) := by kernel_rfl
theorem q4_RRC4 (s : Sv) (n k c : Nat) (f fa fb fc : Nat → Int) (st : Int) : endsAt [] (Ly.run ctxH 9000 [(0, true), (4, true), (3, true), (2, true), (4, true)] (Ly.start Try.f4 [svV s (sl 0 (n + 1)) (sls 1 (k + 1)), sl 2 c, .int .i64 st] (mkH [some (ints .u8 f (n + 1)), some (bytes2 fa fb (k + 1)), some (ints .u8 fc c)]))) = some ([tLi n, tLn k, tC c, tS st, ((tMx n).1, true)], .bool true, 5, []) := by kernel_rfl
theorem w4_RRC (s : Sv) (n k c : Nat) (f fa fb fc : Nat → Int) (st : Int) (hs : s.Ok) (hf : ∀ e, e < n + 1 → B8 (f e)) (hb : ∀ e, e < k + 1 → B16 (fa e) ∧ B8 (fb e)) (hfc : ∀ e, e < c → B8 (fc e)) : LCalls Try.prog 4 [svV s (sl 0 (n + 1)) (sls 1 (k + 1)), sl 2 c, .int .i64 st] (mkH [some (ints .u8 f (n + 1)), some (bytes2 fa fb (k + 1)), some (ints .u8 fc c)]) (fun u _ => u = .bool true) := by
  rcases Nat.lt_or_ge 300 (n + 1) with e1 | e1
  · exact (Ends.of_run ctxH_ok 9000 _ gL4 (by kernel_rfl) (q4_RRC0 s n k c f fa fb fc st) (tr_cons (no_Li (by omega)) trivial)).mono (fun u K h => h.1)
  rcases Nat.lt_or_ge 300 (k + 1) with hk | hk
  · exact (Ends.of_run ctxH_ok 9000 _ gL4 (by kernel_rfl) (q4_RRC1 s n k c f fa fb fc st) (tr_cons (tLi_ok (by omega)) (tr_cons (tLn_no (by omega)) trivial))).mono (fun u K h => h.1)
  rcases Nat.lt_or_ge 200 c with hc | hc
  · exact (Ends.of_run ctxH_ok 9000 _ gL4 (by kernel_rfl) (q4_RRC2 s n k c f fa fb fc st) (tr_cons (tLi_ok (by omega)) (tr_cons (tLn_ok (by omega)) (tr_cons (tC_no (by omega)) trivial)))).mono (fun u K h => h.1)
  rcases Int.lt_or_le 300 st with hst | hst
  · exact (Ends.of_run ctxH_ok 9000 _ gL4 (by kernel_rfl) (q4_RRC3 s n k c f fa fb fc st) (tr_cons (tLi_ok (by omega)) (tr_cons (tLn_ok (by omega)) (tr_cons (tC_ok (by omega)) (tr_cons (tS_no (by omega)) trivial))))).mono (fun u K h => h.1)
  rcases Nat.lt_or_ge 256 (n + 1) with hn | hn
  · exact (Ends.of_run ctxH_ok 9000 _ gL4 (by kernel_rfl) (q4_RRC4 s n k c f fa fb fc st) (tr_cons (tLi_ok (by omega)) (tr_cons (tLn_ok (by omega)) (tr_cons (tC_ok (by omega)) (tr_cons (tS_ok (by omega)) (tr_cons (no_Mx (by omega)) trivial)))))).mono (fun u K h => h.1)
  exact l4_RR tail4 s n k c f fa fb fc st hs hn hf hk hb hst hc hfc
theorem runs_walk (W : World) (v0 v1 v2 : Value) (h0 : ∃ cs, v0 = .agg ⟨cs⟩ ∧ CksOk W [.int .u8, .int .u8, .int .u8, .int .u8, .int .u8, .int .u8, .int .u8, .int .u8, .bool, .bool, .bool, .bool, .bool, .int .u16, .int .u16, .bool, .slice [.int .u8], .slice [.int .u16, .int .u8]] cs)
    (h1 : CkOk W (.slice [.int .u8]) v1) (h2 : CkOk W (.int .i64) v2) : Calls Try.prog 4 #[v0, v1, v2] W fun e W' => e = .returned (.bool true) ∧ Below W.heap.size W W' := by
  obtain ⟨s, iv, mv, hs, rfl, hi, hm⟩ := sv_open h0
  obtain ⟨f, n, li, pi, hI, hf, _⟩ := in_cases hi
  obtain ⟨a, b, k, lm, pm, hM, hb, _⟩ := m_casesS hm
  simp only [CkOk] at h2
  obtain ⟨st, rfl, hst⟩ := h2
  rcases ck_in h1 with rfl | ⟨c, fc, pc, hC, hfc, _⟩
  · refine calls_startC (fc := fun _ => 0) (c := 0) hI hM (.inl ⟨rfl, rfl, rfl, rfl⟩) (rest := [.int .i64 st]) (by simp [plain, plainL]) ?_
    rcases hI with ⟨rfl, _, _, _⟩ | ⟨rfl, _⟩ <;> rcases hM with ⟨rfl, _, _, _⟩ | ⟨rfl, _⟩
    · exact w4_NNN s n k 0 f a b _ st hs
    · rcases k with _ | k
      · exact w4_NEN s n 0 0 f a b _ st hs
      · exact w4_NRN s n k 0 f a b _ st hs hb
    · rcases n with _ | n
      · exact w4_ENN s 0 k 0 f a b _ st hs
      · exact w4_RNN s n k 0 f a b _ st hs hf
    · rcases n with _ | n <;> rcases k with _ | k
      · exact w4_EEN s 0 0 0 f a b _ st hs
      · exact w4_ERN s 0 k 0 f a b _ st hs hb
      · exact w4_REN s n 0 0 f a b _ st hs hf
      · exact w4_RRN s n k 0 f a b _ st hs hf hb
  · refine calls_startC (fc := fc) (c := c) (lc := sl 2 c) hI hM (.inr ⟨rfl, hC⟩) (rest := [.int .i64 st]) (by simp [plain, plainL]) ?_
    rcases hI with ⟨rfl, _, _, _⟩ | ⟨rfl, _⟩ <;> rcases hM with ⟨rfl, _, _, _⟩ | ⟨rfl, _⟩
    · exact w4_NNC s n k c f a b fc st hs hfc
    · rcases k with _ | k
      · exact w4_NEC s n 0 c f a b fc st hs hfc
      · exact w4_NRC s n k c f a b fc st hs hb hfc
    · rcases n with _ | n
      · exact w4_ENC s 0 k c f a b fc st hs hfc
      · exact w4_RNC s n k c f a b fc st hs hf hfc
    · rcases n with _ | n <;> rcases k with _ | k
      · exact w4_EEC s 0 0 c f a b fc st hs hfc
      · exact w4_ERC s 0 k c f a b fc st hs hb hfc
      · exact w4_REC s n 0 c f a b fc st hs hf hfc
      · exact w4_RRC s n k c f a b fc st hs hf hb hfc
end Go.Proofs.Ytpggoincnebfnaa
end
