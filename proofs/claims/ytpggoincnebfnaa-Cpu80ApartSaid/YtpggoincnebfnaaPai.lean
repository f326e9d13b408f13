/- Part 9 of the texts that the law needs, laid together. By program (pack.py). -/
import Derived.Test.YtpggoincnebfnaaPag
import Derived.KernelRfl
set_option linter.unusedVariables false
set_option linter.unusedSimpArgs false
noncomputable section
namespace Go.Proofs.Ytpggoincnebfnaa
open Go Go.Ly Go.RowKit
variable (m : Mc) (g : Nat → Int) (b1 b2 : Int)
theorem p10_0 : endsAt [0, 1] (Ly.run ctx3 3000 [] (sP m g 16 b1 b2)) = some (T [], .int .i64 8, 5, hPm m (memL g)) := by kernel_rfl
theorem r10_0 : endsAt [0, 1, 2] (Ly.run ctx3 3000 [] (sR m g 16)) = some (T [], .int .i64 8, 3, hRm m (memL g)) := by kernel_rfl
theorem o10 (hm : m.Ok) (hg : ∀ e, B8 (g e)) (hh : m.halt = false) (h0 : g (ix m.pc) = 16) : Both m g := by
  obtain ⟨r0, r1, r2, r3, r4, r5, r7, sp, pc⟩ := id hm
  exact join (m' := m) (g' := g) hm hh h0 (p10_0 m g _ _) (r10_0 m g) (by simp [*]) (by simp [*]) (by decide) (by decide) (eP (.inl rfl)) (eR rfl (.inl rfl)) (by constructor <;> simp [*]) hg
theorem p11_0 : endsAt [0, 1] (Ly.run ctx3 3000 [] (sP m g 17 b1 b2)) = some (T [], .int .i64 0, 5, hPm { m with pc := w16 (m.pc + 3), r2 := w8 ((or16 (w16 (or16 0 (w16 b2) * 256)) (w16 b1)).fdiv 256), r3 := w8 (or16 (w16 (or16 0 (w16 b2) * 256)) (w16 b1)) } (memL g)) := by kernel_rfl
theorem r11_0 : endsAt [0, 1, 2] (Ly.run ctx3 3000 [(3, true), (0, true), (0, true), (1, true), (0, true), (0, true), (0, true)] (sR m g 17)) = some (T [inw m.pc && true, rg (w16 (m.pc + 1)), bl (ix (w16 (m.pc + 1))), inw m.pc && true, rg (w16 (m.pc + 2)), bl (ix (w16 (m.pc + 2))), inw m.pc && true], .int .i64 0, 3, hRm { m with pc := w16 (m.pc + 3), r2 := w8 ((w16 (w16 (g (ix (w16 (m.pc + 1)))) + w16 (w16 (g (ix (w16 (m.pc + 2)))) * 256))).fdiv 256), r3 := w8 (and16 (w16 (w16 (g (ix (w16 (m.pc + 1)))) + w16 (w16 (g (ix (w16 (m.pc + 2)))) * 256))) 255) } (memL g)) := by kernel_rfl
theorem o11 (hm : m.Ok) (hg : ∀ e, B8 (g e)) (hh : m.halt = false) (h0 : g (ix m.pc) = 17) : Both m g := by
  obtain ⟨r0, r1, r2, r3, r4, r5, r7, sp, pc⟩ := id hm
  exact joinA (m' := { m with pc := w16 (m.pc + 3), r2 := w8 ((or16 (w16 (or16 0 (w16 (g (at1 m.pc 2))) * 256)) (w16 (g (at1 m.pc 1)))).fdiv 256), r3 := w8 (or16 (w16 (or16 0 (w16 (g (at1 m.pc 2))) * 256)) (w16 (g (at1 m.pc 1)))) }) hm hh h0 (p11_0 m g _ _) (r11_0 m g) hg
theorem p12_0 : endsAt [0, 1] (Ly.run ctx3 3000 [(33, true), (0, true)] (sP m g 18 b1 b2)) = some (T [(true && lt16 (or16 (w16 (w16 m.r2 * 256)) (w16 m.r3))), bl (ix (or16 (w16 (w16 m.r2 * 256)) (w16 m.r3)))], .int .i64 0, 5, hPm { m with pc := w16 (m.pc + 1) } (M1 g (ix (or16 (w16 (w16 m.r2 * 256)) (w16 m.r3))) (m.r7))) := by kernel_rfl
theorem r12_0 : endsAt [0, 1, 2] (Ly.run ctx3 3000 [(4, true), (13, true), (4, true), (0, true)] (sR m g 18)) = some (T [inw m.pc && true, inb m.r2 && inb m.r3, rg (256 * m.r2 + m.r3), bl (ix (256 * m.r2 + m.r3))], .int .i64 0, 3, hRm { m with pc := w16 (m.pc + 1) } (M1 g (ix (256 * m.r2 + m.r3)) (m.r7))) := by kernel_rfl
theorem o12 (hm : m.Ok) (hg : ∀ e, B8 (g e)) (hh : m.halt = false) (h0 : g (ix m.pc) = 18) : Both m g := by
  obtain ⟨r0, r1, r2, r3, r4, r5, r7, sp, pc⟩ := id hm
  exact join (m' := { m with pc := w16 (m.pc + 1) }) (g' := (upd g (ix (or16 (w16 (w16 m.r2 * 256)) (w16 m.r3))) (m.r7))) hm hh h0 (p12_0 m g _ _) (r12_0 m g) (by simp [*]) (by simp [*]) (by decide) (by decide) (eP (m1s rfl rfl)) (eR rfl (m1s (by simp [*]) (by simp [*]))) (by constructor <;> simp [*]) (upd_b8 hg (by simp [*]))
@[simp] def z13_0 (m : Mc) : Mc := { m with pc := w16 (m.pc + 1), r2 := w8 ((w16 (or16 (w16 (w16 m.r2 * 256)) (w16 m.r3) + 1)).fdiv 256), r3 := w8 (w16 (or16 (w16 (w16 m.r2 * 256)) (w16 m.r3) + 1)) }
theorem p13_0 : endsAt [0, 1] (Ly.run ctx3 3000 [] (sP m g 19 b1 b2)) = some (T [], .int .i64 0, 5, hPm (z13_0 m) (memL g)) := by kernel_rfl
theorem r13_0 : endsAt [0, 1, 2] (Ly.run ctx3 3000 [(4, true), (14, true), (0, true)] (sR m g 19)) = some (T [inw m.pc && true, inb m.r2 && inb m.r3, inw (256 * m.r2 + m.r3) && true], .int .i64 0, 3, hRm { m with pc := w16 (m.pc + 1), r2 := w8 ((w16 (256 * m.r2 + m.r3 + 1)).fdiv 256), r3 := w8 (and16 (w16 (256 * m.r2 + m.r3 + 1)) 255) } (memL g)) := by kernel_rfl
theorem o13 (hm : m.Ok) (hg : ∀ e, B8 (g e)) (hh : m.halt = false) (h0 : g (ix m.pc) = 19) : Both m g := by
  obtain ⟨r0, r1, r2, r3, r4, r5, r7, sp, pc⟩ := id hm
  exact joinA (m' := (z13_0 m)) hm hh h0 (p13_0 m g _ _) (r13_0 m g) hg
@[simp] def z14_0 (m : Mc) : Mc := { m with fp := par ((m.r2 + 1) % 256), fs := decide (128 ≤ (m.r2 + 1) % 256), fx := decide (15 < m.r2 % 16 + 1), fz := (m.r2 + 1) % 256 == 0, pc := w16 (m.pc + 1), r2 := (m.r2 + 1) % 256 }
theorem p14_0 : endsAt [0, 1] (Ly.run ctx3 3000 [(21, true)] (sP m g 20 b1 b2)) = some (T [inb m.r2], .int .i64 0, 5, hPm (z14_0 m) (memL g)) := by kernel_rfl
theorem r14_0 : endsAt [0, 1, 2] (Ly.run ctx3 3000 [(4, true), (10, true)] (sR m g 20)) = some (T [inw m.pc && true, inb m.r2], .int .i64 0, 4, hRm (z14_0 m) (memL g)) := by kernel_rfl
theorem o14 (hm : m.Ok) (hg : ∀ e, B8 (g e)) (hh : m.halt = false) (h0 : g (ix m.pc) = 20) : Both m g := by
  obtain ⟨r0, r1, r2, r3, r4, r5, r7, sp, pc⟩ := id hm
  exact joinA (m' := (z14_0 m)) hm hh h0 (p14_0 m g _ _) (r14_0 m g) hg
@[simp] def z15_0 (m : Mc) : Mc := { m with fp := par ((m.r2 - 1) % 256), fs := decide (128 ≤ (m.r2 - 1) % 256), fx := decide (15 < m.r2 % 16 + 15), fz := (m.r2 - 1) % 256 == 0, pc := w16 (m.pc + 1), r2 := (m.r2 - 1) % 256 }
theorem p15_0 : endsAt [0, 1] (Ly.run ctx3 3000 [(22, true)] (sP m g 21 b1 b2)) = some (T [inb m.r2], .int .i64 0, 5, hPm (z15_0 m) (memL g)) := by kernel_rfl
theorem r15_0 : endsAt [0, 1, 2] (Ly.run ctx3 3000 [(4, true), (11, true)] (sR m g 21)) = some (T [inw m.pc && true, inb m.r2], .int .i64 0, 4, hRm (z15_0 m) (memL g)) := by kernel_rfl
theorem o15 (hm : m.Ok) (hg : ∀ e, B8 (g e)) (hh : m.halt = false) (h0 : g (ix m.pc) = 21) : Both m g := by
  obtain ⟨r0, r1, r2, r3, r4, r5, r7, sp, pc⟩ := id hm
  exact joinA (m' := (z15_0 m)) hm hh h0 (p15_0 m g _ _) (r15_0 m g) hg
theorem p16_0 : endsAt [0, 1] (Ly.run ctx3 3000 [] (sP m g 22 b1 b2)) = some (T [], .int .i64 0, 5, hPm { m with pc := w16 (m.pc + 2), r2 := w8 (or16 0 (w16 b1)) } (memL g)) := by kernel_rfl
theorem r16_0 : endsAt [0, 1, 2] (Ly.run ctx3 3000 [(3, true), (0, true), (0, true), (1, true)] (sR m g 22)) = some (T [inw m.pc && true, rg (w16 (m.pc + 1)), bl (ix (w16 (m.pc + 1))), inw m.pc && true], .int .i64 0, 3, hRm { m with pc := w16 (m.pc + 2), r2 := w8 (w16 (g (ix (w16 (m.pc + 1))))) } (memL g)) := by kernel_rfl
theorem o16 (hm : m.Ok) (hg : ∀ e, B8 (g e)) (hh : m.halt = false) (h0 : g (ix m.pc) = 22) : Both m g := by
  obtain ⟨r0, r1, r2, r3, r4, r5, r7, sp, pc⟩ := id hm
  exact joinA (m' := { m with pc := w16 (m.pc + 2), r2 := w8 (or16 0 (w16 (g (at1 m.pc 1)))) }) hm hh h0 (p16_0 m g _ _) (r16_0 m g) hg
@[simp] def z17_0 (m : Mc) : Mc := { m with fc := decide (128 ≤ m.r7), pc := w16 (m.pc + 1), r7 := (2 * m.r7 + cI m.fc) % 256 }
theorem p17_0 : endsAt [0, 1] (Ly.run ctx3 3000 [(27, true)] (sP m g 23 b1 b2)) = some (T [inb m.r7], .int .i64 0, 5, hPm (z17_0 m) (memL g)) := by kernel_rfl
theorem r17_0 : endsAt [0, 1, 2] (Ly.run ctx3 3000 [(4, true), (16, true)] (sR m g 23)) = some (T [inw m.pc && true, inb m.r7], .int .i64 0, 3, hRm (z17_0 m) (memL g)) := by kernel_rfl
theorem o17 (hm : m.Ok) (hg : ∀ e, B8 (g e)) (hh : m.halt = false) (h0 : g (ix m.pc) = 23) : Both m g := by
  obtain ⟨r0, r1, r2, r3, r4, r5, r7, sp, pc⟩ := id hm
  exact joinA (m' := (z17_0 m)) hm hh h0 (p17_0 m g _ _) (r17_0 m g) hg
theorem p18_0 : endsAt [0, 1] (Ly.run ctx3 3000 [] (sP m g 24 b1 b2)) = some (T [], .int .i64 8, 5, hPm m (memL g)) := by kernel_rfl
theorem r18_0 : endsAt [0, 1, 2] (Ly.run ctx3 3000 [] (sR m g 24)) = some (T [], .int .i64 8, 3, hRm m (memL g)) := by kernel_rfl
theorem o18 (hm : m.Ok) (hg : ∀ e, B8 (g e)) (hh : m.halt = false) (h0 : g (ix m.pc) = 24) : Both m g := by
  obtain ⟨r0, r1, r2, r3, r4, r5, r7, sp, pc⟩ := id hm
  exact join (m' := m) (g' := g) hm hh h0 (p18_0 m g _ _) (r18_0 m g) (by simp [*]) (by simp [*]) (by decide) (by decide) (eP (.inl rfl)) (eR rfl (.inl rfl)) (by constructor <;> simp [*]) hg
@[simp] def z19_0 (m : Mc) : Mc := { m with fc := decide (65535 < or16 (w16 (w16 m.r4 * 256)) (w16 m.r5) + or16 (w16 (w16 m.r2 * 256)) (w16 m.r3)), pc := w16 (m.pc + 1), r4 := w8 (((or16 (w16 (w16 m.r4 * 256)) (w16 m.r5) + or16 (w16 (w16 m.r2 * 256)) (w16 m.r3)) % 65536).fdiv 256), r5 := w8 ((or16 (w16 (w16 m.r4 * 256)) (w16 m.r5) + or16 (w16 (w16 m.r2 * 256)) (w16 m.r3)) % 65536) }
theorem p19_0 : endsAt [0, 1] (Ly.run ctx3 3000 [(37, true)] (sP m g 25 b1 b2)) = some (T [true && decide (or16 (w16 (w16 m.r4 * 256)) (w16 m.r5) ≤ 65535) && (true && decide (or16 (w16 (w16 m.r2 * 256)) (w16 m.r3) ≤ 65535))], .int .i64 0, 5, hPm (z19_0 m) (memL g)) := by kernel_rfl
theorem r19_0 : endsAt [0, 1, 2] (Ly.run ctx3 3000 [(4, true), (12, true), (6, true), (0, true)] (sR m g 25)) = some (T [inw m.pc && true, inb m.r4 && inb m.r5, inb m.r2 && inb m.r3, decide (0 ≤ 256 * m.r4 + m.r5) && decide (256 * m.r4 + m.r5 ≤ 65535) && (decide (0 ≤ 256 * m.r2 + m.r3) && decide (256 * m.r2 + m.r3 ≤ 65535))], .int .i64 0, 3, hRm { m with fc := decide (65535 < 256 * m.r4 + m.r5 + (256 * m.r2 + m.r3)), pc := w16 (m.pc + 1), r4 := w8 (((256 * m.r4 + m.r5 + (256 * m.r2 + m.r3)) % 65536).fdiv 256), r5 := w8 (and16 ((256 * m.r4 + m.r5 + (256 * m.r2 + m.r3)) % 65536) 255) } (memL g)) := by kernel_rfl
theorem o19 (hm : m.Ok) (hg : ∀ e, B8 (g e)) (hh : m.halt = false) (h0 : g (ix m.pc) = 25) : Both m g := by
  obtain ⟨r0, r1, r2, r3, r4, r5, r7, sp, pc⟩ := id hm
  exact join (m' := (z19_0 m)) (g' := g) hm hh h0 (p19_0 m g _ _) (r19_0 m g) (by simp [*]; unfold B8 B16 at *; omega) (by simp [*]; unfold B8 B16 at *; omega) (by decide) (by decide) (eP (.inl rfl)) (eR (by simp [*]) (.inl rfl)) (by constructor <;> simp [*]) hg
@[simp] def z1a_0 (m : Mc) (g : Nat → Int) : Mc := { m with pc := w16 (m.pc + 1), r7 := g (ix (or16 (w16 (w16 m.r2 * 256)) (w16 m.r3))) }
theorem p1a_0 : endsAt [0, 1] (Ly.run ctx3 3000 [(34, true), (0, true)] (sP m g 26 b1 b2)) = some (T [(true && lt16 (or16 (w16 (w16 m.r2 * 256)) (w16 m.r3))), bl (ix (or16 (w16 (w16 m.r2 * 256)) (w16 m.r3)))], .int .i64 0, 5, hPm (z1a_0 m g) (memL g)) := by kernel_rfl
theorem r1a_0 : endsAt [0, 1, 2] (Ly.run ctx3 3000 [(4, true), (13, true), (3, true), (0, true)] (sR m g 26)) = some (T [inw m.pc && true, inb m.r2 && inb m.r3, rg (256 * m.r2 + m.r3), bl (ix (256 * m.r2 + m.r3))], .int .i64 0, 3, hRm { m with pc := w16 (m.pc + 1), r7 := g (ix (256 * m.r2 + m.r3)) } (memL g)) := by kernel_rfl
theorem o1a (hm : m.Ok) (hg : ∀ e, B8 (g e)) (hh : m.halt = false) (h0 : g (ix m.pc) = 26) : Both m g := by
  obtain ⟨r0, r1, r2, r3, r4, r5, r7, sp, pc⟩ := id hm
  exact joinA (m' := (z1a_0 m g)) hm hh h0 (p1a_0 m g _ _) (r1a_0 m g) hg
@[simp] def z1b_0 (m : Mc) : Mc := { m with pc := w16 (m.pc + 1), r2 := w8 ((w16 (or16 (w16 (w16 m.r2 * 256)) (w16 m.r3) - 1)).fdiv 256), r3 := w8 (w16 (or16 (w16 (w16 m.r2 * 256)) (w16 m.r3) - 1)) }
theorem p1b_0 : endsAt [0, 1] (Ly.run ctx3 3000 [] (sP m g 27 b1 b2)) = some (T [], .int .i64 0, 5, hPm (z1b_0 m) (memL g)) := by kernel_rfl
theorem r1b_0 : endsAt [0, 1, 2] (Ly.run ctx3 3000 [(4, true), (14, true), (0, true)] (sR m g 27)) = some (T [inw m.pc && true, inb m.r2 && inb m.r3, inw (256 * m.r2 + m.r3) && true], .int .i64 0, 3, hRm { m with pc := w16 (m.pc + 1), r2 := w8 ((w16 (256 * m.r2 + m.r3 + -1)).fdiv 256), r3 := w8 (and16 (w16 (256 * m.r2 + m.r3 + -1)) 255) } (memL g)) := by kernel_rfl
theorem o1b (hm : m.Ok) (hg : ∀ e, B8 (g e)) (hh : m.halt = false) (h0 : g (ix m.pc) = 27) : Both m g := by
  obtain ⟨r0, r1, r2, r3, r4, r5, r7, sp, pc⟩ := id hm
  exact joinA (m' := (z1b_0 m)) hm hh h0 (p1b_0 m g _ _) (r1b_0 m g) hg
@[simp] def z1c_0 (m : Mc) : Mc := { m with fp := par ((m.r3 + 1) % 256), fs := decide (128 ≤ (m.r3 + 1) % 256), fx := decide (15 < m.r3 % 16 + 1), fz := (m.r3 + 1) % 256 == 0, pc := w16 (m.pc + 1), r3 := (m.r3 + 1) % 256 }
theorem p1c_0 : endsAt [0, 1] (Ly.run ctx3 3000 [(21, true)] (sP m g 28 b1 b2)) = some (T [inb m.r3], .int .i64 0, 5, hPm (z1c_0 m) (memL g)) := by kernel_rfl
theorem r1c_0 : endsAt [0, 1, 2] (Ly.run ctx3 3000 [(4, true), (10, true)] (sR m g 28)) = some (T [inw m.pc && true, inb m.r3], .int .i64 0, 4, hRm (z1c_0 m) (memL g)) := by kernel_rfl
theorem o1c (hm : m.Ok) (hg : ∀ e, B8 (g e)) (hh : m.halt = false) (h0 : g (ix m.pc) = 28) : Both m g := by
  obtain ⟨r0, r1, r2, r3, r4, r5, r7, sp, pc⟩ := id hm
  exact joinA (m' := (z1c_0 m)) hm hh h0 (p1c_0 m g _ _) (r1c_0 m g) hg
@[simp] def z1d_0 (m : Mc) : Mc := { m with fp := par ((m.r3 - 1) % 256), fs := decide (128 ≤ (m.r3 - 1) % 256), fx := decide (15 < m.r3 % 16 + 15), fz := (m.r3 - 1) % 256 == 0, pc := w16 (m.pc + 1), r3 := (m.r3 - 1) % 256 }
theorem p1d_0 : endsAt [0, 1] (Ly.run ctx3 3000 [(22, true)] (sP m g 29 b1 b2)) = some (T [inb m.r3], .int .i64 0, 5, hPm (z1d_0 m) (memL g)) := by kernel_rfl
theorem r1d_0 : endsAt [0, 1, 2] (Ly.run ctx3 3000 [(4, true), (11, true)] (sR m g 29)) = some (T [inw m.pc && true, inb m.r3], .int .i64 0, 4, hRm (z1d_0 m) (memL g)) := by kernel_rfl
theorem o1d (hm : m.Ok) (hg : ∀ e, B8 (g e)) (hh : m.halt = false) (h0 : g (ix m.pc) = 29) : Both m g := by
  obtain ⟨r0, r1, r2, r3, r4, r5, r7, sp, pc⟩ := id hm
  exact joinA (m' := (z1d_0 m)) hm hh h0 (p1d_0 m g _ _) (r1d_0 m g) hg
theorem p1e_0 : endsAt [0, 1] (Ly.run ctx3 3000 [] (sP m g 30 b1 b2)) = some (T [], .int .i64 0, 5, hPm { m with pc := w16 (m.pc + 2), r3 := w8 (or16 0 (w16 b1)) } (memL g)) := by kernel_rfl
theorem r1e_0 : endsAt [0, 1, 2] (Ly.run ctx3 3000 [(3, true), (0, true), (0, true), (1, true)] (sR m g 30)) = some (T [inw m.pc && true, rg (w16 (m.pc + 1)), bl (ix (w16 (m.pc + 1))), inw m.pc && true], .int .i64 0, 3, hRm { m with pc := w16 (m.pc + 2), r3 := w8 (w16 (g (ix (w16 (m.pc + 1))))) } (memL g)) := by kernel_rfl
theorem o1e (hm : m.Ok) (hg : ∀ e, B8 (g e)) (hh : m.halt = false) (h0 : g (ix m.pc) = 30) : Both m g := by
  obtain ⟨r0, r1, r2, r3, r4, r5, r7, sp, pc⟩ := id hm
  exact joinA (m' := { m with pc := w16 (m.pc + 2), r3 := w8 (or16 0 (w16 (g (at1 m.pc 1)))) }) hm hh h0 (p1e_0 m g _ _) (r1e_0 m g) hg
@[simp] def z1f_0 (m : Mc) : Mc := { m with fc := m.r7 % 2 == 1, pc := w16 (m.pc + 1), r7 := m.r7 / 2 + 128 * cI m.fc }
theorem p1f_0 : endsAt [0, 1] (Ly.run ctx3 3000 [(27, true)] (sP m g 31 b1 b2)) = some (T [inb m.r7], .int .i64 0, 5, hPm (z1f_0 m) (memL g)) := by kernel_rfl
theorem r1f_0 : endsAt [0, 1, 2] (Ly.run ctx3 3000 [(4, true), (16, true)] (sR m g 31)) = some (T [inw m.pc && true, inb m.r7], .int .i64 0, 3, hRm (z1f_0 m) (memL g)) := by kernel_rfl
theorem o1f (hm : m.Ok) (hg : ∀ e, B8 (g e)) (hh : m.halt = false) (h0 : g (ix m.pc) = 31) : Both m g := by
  obtain ⟨r0, r1, r2, r3, r4, r5, r7, sp, pc⟩ := id hm
  exact joinA (m' := (z1f_0 m)) hm hh h0 (p1f_0 m g _ _) (r1f_0 m g) hg
theorem blk1 (m : Mc) (g : Nat → Int) (hm : m.Ok) (hg : ∀ e, B8 (g e)) (hh : m.halt = false) (h1 : 16 ≤ g (ix m.pc)) (h2 : g (ix m.pc) < 32) : Both m g := by
  have h : g (ix m.pc) = 16 ∨ g (ix m.pc) = 17 ∨ g (ix m.pc) = 18 ∨ g (ix m.pc) = 19 ∨ g (ix m.pc) = 20 ∨ g (ix m.pc) = 21 ∨ g (ix m.pc) = 22 ∨ g (ix m.pc) = 23 ∨ g (ix m.pc) = 24 ∨ g (ix m.pc) = 25 ∨ g (ix m.pc) = 26 ∨ g (ix m.pc) = 27 ∨ g (ix m.pc) = 28 ∨ g (ix m.pc) = 29 ∨ g (ix m.pc) = 30 ∨ g (ix m.pc) = 31 := by omega
  rcases h with h | h | h | h | h | h | h | h | h | h | h | h | h | h | h | h
  · exact o10 m g hm hg hh h
  · exact o11 m g hm hg hh h
  · exact o12 m g hm hg hh h
  · exact o13 m g hm hg hh h
  · exact o14 m g hm hg hh h
  · exact o15 m g hm hg hh h
  · exact o16 m g hm hg hh h
  · exact o17 m g hm hg hh h
  · exact o18 m g hm hg hh h
  · exact o19 m g hm hg hh h
  · exact o1a m g hm hg hh h
  · exact o1b m g hm hg hh h
  · exact o1c m g hm hg hh h
  · exact o1d m g hm hg hh h
  · exact o1e m g hm hg hh h
  · exact o1f m g hm hg hh h
end Go.Proofs.Ytpggoincnebfnaa
namespace Go.Proofs.Ytpggoincnebfnaa
open Go Go.Ly Go.RowKit
variable (m : Mc) (g : Nat → Int) (b1 b2 : Int)
theorem p20_0 : endsAt [0, 1] (Ly.run ctx3 3000 [] (sP m g 32 b1 b2)) = some (T [], .int .i64 8, 5, hPm m (memL g)) := by kernel_rfl
theorem r20_0 : endsAt [0, 1, 2] (Ly.run ctx3 3000 [] (sR m g 32)) = some (T [], .int .i64 8, 3, hRm m (memL g)) := by kernel_rfl
theorem o20 (hm : m.Ok) (hg : ∀ e, B8 (g e)) (hh : m.halt = false) (h0 : g (ix m.pc) = 32) : Both m g := by
  obtain ⟨r0, r1, r2, r3, r4, r5, r7, sp, pc⟩ := id hm
  exact join (m' := m) (g' := g) hm hh h0 (p20_0 m g _ _) (r20_0 m g) (by simp [*]) (by simp [*]) (by decide) (by decide) (eP (.inl rfl)) (eR rfl (.inl rfl)) (by constructor <;> simp [*]) hg
theorem p21_0 : endsAt [0, 1] (Ly.run ctx3 3000 [] (sP m g 33 b1 b2)) = some (T [], .int .i64 0, 5, hPm { m with pc := w16 (m.pc + 3), r4 := w8 ((or16 (w16 (or16 0 (w16 b2) * 256)) (w16 b1)).fdiv 256), r5 := w8 (or16 (w16 (or16 0 (w16 b2) * 256)) (w16 b1)) } (memL g)) := by kernel_rfl
theorem r21_0 : endsAt [0, 1, 2] (Ly.run ctx3 3000 [(3, true), (0, true), (0, true), (1, true), (0, true), (0, true), (0, true)] (sR m g 33)) = some (T [inw m.pc && true, rg (w16 (m.pc + 1)), bl (ix (w16 (m.pc + 1))), inw m.pc && true, rg (w16 (m.pc + 2)), bl (ix (w16 (m.pc + 2))), inw m.pc && true], .int .i64 0, 3, hRm { m with pc := w16 (m.pc + 3), r4 := w8 ((w16 (w16 (g (ix (w16 (m.pc + 1)))) + w16 (w16 (g (ix (w16 (m.pc + 2)))) * 256))).fdiv 256), r5 := w8 (and16 (w16 (w16 (g (ix (w16 (m.pc + 1)))) + w16 (w16 (g (ix (w16 (m.pc + 2)))) * 256))) 255) } (memL g)) := by kernel_rfl
theorem o21 (hm : m.Ok) (hg : ∀ e, B8 (g e)) (hh : m.halt = false) (h0 : g (ix m.pc) = 33) : Both m g := by
  obtain ⟨r0, r1, r2, r3, r4, r5, r7, sp, pc⟩ := id hm
  exact joinA (m' := { m with pc := w16 (m.pc + 3), r4 := w8 ((or16 (w16 (or16 0 (w16 (g (at1 m.pc 2))) * 256)) (w16 (g (at1 m.pc 1)))).fdiv 256), r5 := w8 (or16 (w16 (or16 0 (w16 (g (at1 m.pc 2))) * 256)) (w16 (g (at1 m.pc 1)))) }) hm hh h0 (p21_0 m g _ _) (r21_0 m g) hg
theorem p22_0 : endsAt [0, 1] (Ly.run ctx3 3000 [(33, true), (0, true), (2, true), (0, true)] (sP m g 34 b1 b2)) = some (T [(true && lt16 (or16 (w16 (or16 0 (w16 b2) * 256)) (w16 b1))), bl (ix (or16 (w16 (or16 0 (w16 b2) * 256)) (w16 b1))), (true && lt16 (w16 (or16 (w16 (or16 0 (w16 b2) * 256)) (w16 b1) + 1))), bl (ix (w16 (or16 (w16 (or16 0 (w16 b2) * 256)) (w16 b1) + 1)))], .int .i64 0, 6, hPm { m with pc := w16 (m.pc + 3) } (M2 g (ix (or16 (w16 (or16 0 (w16 b2) * 256)) (w16 b1))) (m.r5) (ix (w16 (or16 (w16 (or16 0 (w16 b2) * 256)) (w16 b1) + 1))) (m.r4))) := by kernel_rfl
theorem r22_0 : endsAt [0, 1, 2] (Ly.run ctx3 3000 [(3, true), (0, true), (0, true), (1, true), (0, true), (0, true), (0, true), (9, true), (0, true), (0, true), (1, true), (0, true)] (sR m g 34)) = some (T [inw m.pc && true, rg (w16 (m.pc + 1)), bl (ix (w16 (m.pc + 1))), inw m.pc && true, rg (w16 (m.pc + 2)), bl (ix (w16 (m.pc + 2))), inw m.pc && true, rg (w16 (w16 (g (ix (w16 (m.pc + 1)))) + w16 (w16 (g (ix (w16 (m.pc + 2)))) * 256))), bl (ix (w16 (w16 (g (ix (w16 (m.pc + 1)))) + w16 (w16 (g (ix (w16 (m.pc + 2)))) * 256)))), inw (w16 (w16 (g (ix (w16 (m.pc + 1)))) + w16 (w16 (g (ix (w16 (m.pc + 2)))) * 256))) && true, rg (w16 (w16 (w16 (g (ix (w16 (m.pc + 1)))) + w16 (w16 (g (ix (w16 (m.pc + 2)))) * 256)) + 1)), bl (ix (w16 (w16 (w16 (g (ix (w16 (m.pc + 1)))) + w16 (w16 (g (ix (w16 (m.pc + 2)))) * 256)) + 1)))], .int .i64 0, 3, hRm { m with pc := w16 (m.pc + 3) } (M2 g (ix (w16 (w16 (g (ix (w16 (m.pc + 1)))) + w16 (w16 (g (ix (w16 (m.pc + 2)))) * 256)))) (m.r5) (ix (w16 (w16 (w16 (g (ix (w16 (m.pc + 1)))) + w16 (w16 (g (ix (w16 (m.pc + 2)))) * 256)) + 1))) (m.r4))) := by kernel_rfl
theorem o22 (hm : m.Ok) (hg : ∀ e, B8 (g e)) (hh : m.halt = false) (h0 : g (ix m.pc) = 34) : Both m g := by
  obtain ⟨r0, r1, r2, r3, r4, r5, r7, sp, pc⟩ := id hm
  exact join (m' := { m with pc := w16 (m.pc + 3) }) (g' := (upd (upd g (ix (or16 (w16 (or16 0 (w16 (g (at1 m.pc 2))) * 256)) (w16 (g (at1 m.pc 1))))) (m.r5)) (ix (w16 (or16 (w16 (or16 0 (w16 (g (at1 m.pc 2))) * 256)) (w16 (g (at1 m.pc 1))) + 1))) (m.r4))) hm hh h0 (p22_0 m g _ _) (r22_0 m g) (by simp [*]) (by simp [*]) (by decide) (by decide) (eP (m2s rfl rfl rfl rfl)) (eR rfl (m2s (by simp [*]) (by simp [*]) (by simp [*]) (by simp [*]))) (by constructor <;> simp [*]) (upd_b8 (upd_b8 hg (by simp [*])) (by simp [*]))
@[simp] def z23_0 (m : Mc) : Mc := { m with pc := w16 (m.pc + 1), r4 := w8 ((w16 (or16 (w16 (w16 m.r4 * 256)) (w16 m.r5) + 1)).fdiv 256), r5 := w8 (w16 (or16 (w16 (w16 m.r4 * 256)) (w16 m.r5) + 1)) }
theorem p23_0 : endsAt [0, 1] (Ly.run ctx3 3000 [] (sP m g 35 b1 b2)) = some (T [], .int .i64 0, 5, hPm (z23_0 m) (memL g)) := by kernel_rfl
theorem r23_0 : endsAt [0, 1, 2] (Ly.run ctx3 3000 [(4, true), (14, true), (0, true)] (sR m g 35)) = some (T [inw m.pc && true, inb m.r4 && inb m.r5, inw (256 * m.r4 + m.r5) && true], .int .i64 0, 3, hRm { m with pc := w16 (m.pc + 1), r4 := w8 ((w16 (256 * m.r4 + m.r5 + 1)).fdiv 256), r5 := w8 (and16 (w16 (256 * m.r4 + m.r5 + 1)) 255) } (memL g)) := by kernel_rfl
theorem o23 (hm : m.Ok) (hg : ∀ e, B8 (g e)) (hh : m.halt = false) (h0 : g (ix m.pc) = 35) : Both m g := by
  obtain ⟨r0, r1, r2, r3, r4, r5, r7, sp, pc⟩ := id hm
  exact joinA (m' := (z23_0 m)) hm hh h0 (p23_0 m g _ _) (r23_0 m g) hg
@[simp] def z24_0 (m : Mc) : Mc := { m with fp := par ((m.r4 + 1) % 256), fs := decide (128 ≤ (m.r4 + 1) % 256), fx := decide (15 < m.r4 % 16 + 1), fz := (m.r4 + 1) % 256 == 0, pc := w16 (m.pc + 1), r4 := (m.r4 + 1) % 256 }
theorem p24_0 : endsAt [0, 1] (Ly.run ctx3 3000 [(21, true)] (sP m g 36 b1 b2)) = some (T [inb m.r4], .int .i64 0, 5, hPm (z24_0 m) (memL g)) := by kernel_rfl
theorem r24_0 : endsAt [0, 1, 2] (Ly.run ctx3 3000 [(4, true), (10, true)] (sR m g 36)) = some (T [inw m.pc && true, inb m.r4], .int .i64 0, 4, hRm (z24_0 m) (memL g)) := by kernel_rfl
theorem o24 (hm : m.Ok) (hg : ∀ e, B8 (g e)) (hh : m.halt = false) (h0 : g (ix m.pc) = 36) : Both m g := by
  obtain ⟨r0, r1, r2, r3, r4, r5, r7, sp, pc⟩ := id hm
  exact joinA (m' := (z24_0 m)) hm hh h0 (p24_0 m g _ _) (r24_0 m g) hg
@[simp] def z25_0 (m : Mc) : Mc := { m with fp := par ((m.r4 - 1) % 256), fs := decide (128 ≤ (m.r4 - 1) % 256), fx := decide (15 < m.r4 % 16 + 15), fz := (m.r4 - 1) % 256 == 0, pc := w16 (m.pc + 1), r4 := (m.r4 - 1) % 256 }
theorem p25_0 : endsAt [0, 1] (Ly.run ctx3 3000 [(22, true)] (sP m g 37 b1 b2)) = some (T [inb m.r4], .int .i64 0, 5, hPm (z25_0 m) (memL g)) := by kernel_rfl
theorem r25_0 : endsAt [0, 1, 2] (Ly.run ctx3 3000 [(4, true), (11, true)] (sR m g 37)) = some (T [inw m.pc && true, inb m.r4], .int .i64 0, 4, hRm (z25_0 m) (memL g)) := by kernel_rfl
theorem o25 (hm : m.Ok) (hg : ∀ e, B8 (g e)) (hh : m.halt = false) (h0 : g (ix m.pc) = 37) : Both m g := by
  obtain ⟨r0, r1, r2, r3, r4, r5, r7, sp, pc⟩ := id hm
  exact joinA (m' := (z25_0 m)) hm hh h0 (p25_0 m g _ _) (r25_0 m g) hg
theorem p26_0 : endsAt [0, 1] (Ly.run ctx3 3000 [] (sP m g 38 b1 b2)) = some (T [], .int .i64 0, 5, hPm { m with pc := w16 (m.pc + 2), r4 := w8 (or16 0 (w16 b1)) } (memL g)) := by kernel_rfl
theorem r26_0 : endsAt [0, 1, 2] (Ly.run ctx3 3000 [(3, true), (0, true), (0, true), (1, true)] (sR m g 38)) = some (T [inw m.pc && true, rg (w16 (m.pc + 1)), bl (ix (w16 (m.pc + 1))), inw m.pc && true], .int .i64 0, 3, hRm { m with pc := w16 (m.pc + 2), r4 := w8 (w16 (g (ix (w16 (m.pc + 1))))) } (memL g)) := by kernel_rfl
theorem o26 (hm : m.Ok) (hg : ∀ e, B8 (g e)) (hh : m.halt = false) (h0 : g (ix m.pc) = 38) : Both m g := by
  obtain ⟨r0, r1, r2, r3, r4, r5, r7, sp, pc⟩ := id hm
  exact joinA (m' := { m with pc := w16 (m.pc + 2), r4 := w8 (or16 0 (w16 (g (at1 m.pc 1)))) }) hm hh h0 (p26_0 m g _ _) (r26_0 m g) hg
@[simp] def z27_0 (m : Mc) : Mc := { m with fc := daaH m.r7 m.fx m.fc, fp := par ((m.r7 + 6 * cI (daaL m.r7 m.fx) + 96 * cI (daaH m.r7 m.fx m.fc)) % 256), fs := decide (128 ≤ (m.r7 + 6 * cI (daaL m.r7 m.fx) + 96 * cI (daaH m.r7 m.fx m.fc)) % 256), fx := decide (9 < m.r7 % 16), fz := (m.r7 + 6 * cI (daaL m.r7 m.fx) + 96 * cI (daaH m.r7 m.fx m.fc)) % 256 == 0, pc := w16 (m.pc + 1), r7 := (m.r7 + 6 * cI (daaL m.r7 m.fx) + 96 * cI (daaH m.r7 m.fx m.fc)) % 256 }
theorem p27_0 : endsAt [0, 1] (Ly.run ctx3 3000 [(24, true)] (sP m g 39 b1 b2)) = some (T [inb m.r7], .int .i64 0, 5, hPm (z27_0 m) (memL g)) := by kernel_rfl
theorem r27_0 : endsAt [0, 1, 2] (Ly.run ctx3 3000 [(4, true), (13, true)] (sR m g 39)) = some (T [inw m.pc && true, inb m.r7], .int .i64 0, 4, hRm (z27_0 m) (memL g)) := by kernel_rfl
theorem o27 (hm : m.Ok) (hg : ∀ e, B8 (g e)) (hh : m.halt = false) (h0 : g (ix m.pc) = 39) : Both m g := by
  obtain ⟨r0, r1, r2, r3, r4, r5, r7, sp, pc⟩ := id hm
  exact joinA (m' := (z27_0 m)) hm hh h0 (p27_0 m g _ _) (r27_0 m g) hg
theorem p28_0 : endsAt [0, 1] (Ly.run ctx3 3000 [] (sP m g 40 b1 b2)) = some (T [], .int .i64 8, 5, hPm m (memL g)) := by kernel_rfl
theorem r28_0 : endsAt [0, 1, 2] (Ly.run ctx3 3000 [] (sR m g 40)) = some (T [], .int .i64 8, 3, hRm m (memL g)) := by kernel_rfl
theorem o28 (hm : m.Ok) (hg : ∀ e, B8 (g e)) (hh : m.halt = false) (h0 : g (ix m.pc) = 40) : Both m g := by
  obtain ⟨r0, r1, r2, r3, r4, r5, r7, sp, pc⟩ := id hm
  exact join (m' := m) (g' := g) hm hh h0 (p28_0 m g _ _) (r28_0 m g) (by simp [*]) (by simp [*]) (by decide) (by decide) (eP (.inl rfl)) (eR rfl (.inl rfl)) (by constructor <;> simp [*]) hg
@[simp] def z29_0 (m : Mc) : Mc := { m with fc := decide (65535 < or16 (w16 (w16 m.r4 * 256)) (w16 m.r5) + or16 (w16 (w16 m.r4 * 256)) (w16 m.r5)), pc := w16 (m.pc + 1), r4 := w8 (((or16 (w16 (w16 m.r4 * 256)) (w16 m.r5) + or16 (w16 (w16 m.r4 * 256)) (w16 m.r5)) % 65536).fdiv 256), r5 := w8 ((or16 (w16 (w16 m.r4 * 256)) (w16 m.r5) + or16 (w16 (w16 m.r4 * 256)) (w16 m.r5)) % 65536) }
theorem p29_0 : endsAt [0, 1] (Ly.run ctx3 3000 [(37, true)] (sP m g 41 b1 b2)) = some (T [true && decide (or16 (w16 (w16 m.r4 * 256)) (w16 m.r5) ≤ 65535) && (true && decide (or16 (w16 (w16 m.r4 * 256)) (w16 m.r5) ≤ 65535))], .int .i64 0, 5, hPm (z29_0 m) (memL g)) := by kernel_rfl
theorem r29_0 : endsAt [0, 1, 2] (Ly.run ctx3 3000 [(4, true), (12, true), (6, true), (0, true)] (sR m g 41)) = some (T [inw m.pc && true, inb m.r4 && inb m.r5, inb m.r4 && inb m.r5, decide (0 ≤ 256 * m.r4 + m.r5) && decide (256 * m.r4 + m.r5 ≤ 65535) && (decide (0 ≤ 256 * m.r4 + m.r5) && decide (256 * m.r4 + m.r5 ≤ 65535))], .int .i64 0, 3, hRm { m with fc := decide (65535 < 256 * m.r4 + m.r5 + (256 * m.r4 + m.r5)), pc := w16 (m.pc + 1), r4 := w8 (((256 * m.r4 + m.r5 + (256 * m.r4 + m.r5)) % 65536).fdiv 256), r5 := w8 (and16 ((256 * m.r4 + m.r5 + (256 * m.r4 + m.r5)) % 65536) 255) } (memL g)) := by kernel_rfl
theorem o29 (hm : m.Ok) (hg : ∀ e, B8 (g e)) (hh : m.halt = false) (h0 : g (ix m.pc) = 41) : Both m g := by
  obtain ⟨r0, r1, r2, r3, r4, r5, r7, sp, pc⟩ := id hm
  exact join (m' := (z29_0 m)) (g' := g) hm hh h0 (p29_0 m g _ _) (r29_0 m g) (by simp [*]; unfold B8 B16 at *; omega) (by simp [*]; unfold B8 B16 at *; omega) (by decide) (by decide) (eP (.inl rfl)) (eR (by simp [*]) (.inl rfl)) (by constructor <;> simp [*]) hg
theorem p2a_0 : endsAt [0, 1] (Ly.run ctx3 3000 [(30, true), (0, true), (0, true), (0, true)] (sP m g 42 b1 b2)) = some (T [(true && lt16 (or16 (w16 (or16 0 (w16 b2) * 256)) (w16 b1))), bl (ix (or16 (w16 (or16 0 (w16 b2) * 256)) (w16 b1))), (true && lt16 (w16 (or16 (w16 (or16 0 (w16 b2) * 256)) (w16 b1) + 1))), bl (ix (w16 (or16 (w16 (or16 0 (w16 b2) * 256)) (w16 b1) + 1)))], .int .i64 0, 5, hPm { m with pc := w16 (m.pc + 3), r4 := w8 ((or16 (w16 (g (ix (or16 (w16 (or16 0 (w16 b2) * 256)) (w16 b1))))) (w16 (w16 (g (ix (w16 (or16 (w16 (or16 0 (w16 b2) * 256)) (w16 b1) + 1)))) * 256))).fdiv 256), r5 := w8 (or16 (w16 (g (ix (or16 (w16 (or16 0 (w16 b2) * 256)) (w16 b1))))) (w16 (w16 (g (ix (w16 (or16 (w16 (or16 0 (w16 b2) * 256)) (w16 b1) + 1)))) * 256))) } (memL g)) := by kernel_rfl
theorem r2a_0 : endsAt [0, 1, 2] (Ly.run ctx3 3000 [(3, true), (0, true), (0, true), (1, true), (0, true), (0, true), (0, true), (9, true), (0, true), (0, true), (0, true), (0, true), (0, true)] (sR m g 42)) = some (T [inw m.pc && true, rg (w16 (m.pc + 1)), bl (ix (w16 (m.pc + 1))), inw m.pc && true, rg (w16 (m.pc + 2)), bl (ix (w16 (m.pc + 2))), inw m.pc && true, inw (w16 (w16 (g (ix (w16 (m.pc + 1)))) + w16 (w16 (g (ix (w16 (m.pc + 2)))) * 256))) && true, rg (w16 (w16 (w16 (g (ix (w16 (m.pc + 1)))) + w16 (w16 (g (ix (w16 (m.pc + 2)))) * 256)) + 1)), bl (ix (w16 (w16 (w16 (g (ix (w16 (m.pc + 1)))) + w16 (w16 (g (ix (w16 (m.pc + 2)))) * 256)) + 1))), rg (w16 (w16 (g (ix (w16 (m.pc + 1)))) + w16 (w16 (g (ix (w16 (m.pc + 2)))) * 256))), bl (ix (w16 (w16 (g (ix (w16 (m.pc + 1)))) + w16 (w16 (g (ix (w16 (m.pc + 2)))) * 256)))), inb (g (ix (w16 (w16 (w16 (g (ix (w16 (m.pc + 1)))) + w16 (w16 (g (ix (w16 (m.pc + 2)))) * 256)) + 1)))) && inb (g (ix (w16 (w16 (g (ix (w16 (m.pc + 1)))) + w16 (w16 (g (ix (w16 (m.pc + 2)))) * 256)))))], .int .i64 0, 3, hRm { m with pc := w16 (m.pc + 3), r4 := w8 ((256 * g (ix (w16 (w16 (w16 (g (ix (w16 (m.pc + 1)))) + w16 (w16 (g (ix (w16 (m.pc + 2)))) * 256)) + 1))) + g (ix (w16 (w16 (g (ix (w16 (m.pc + 1)))) + w16 (w16 (g (ix (w16 (m.pc + 2)))) * 256))))).fdiv 256), r5 := w8 (and16 (256 * g (ix (w16 (w16 (w16 (g (ix (w16 (m.pc + 1)))) + w16 (w16 (g (ix (w16 (m.pc + 2)))) * 256)) + 1))) + g (ix (w16 (w16 (g (ix (w16 (m.pc + 1)))) + w16 (w16 (g (ix (w16 (m.pc + 2)))) * 256))))) 255) } (memL g)) := by kernel_rfl
theorem o2a (hm : m.Ok) (hg : ∀ e, B8 (g e)) (hh : m.halt = false) (h0 : g (ix m.pc) = 42) : Both m g := by
  obtain ⟨r0, r1, r2, r3, r4, r5, r7, sp, pc⟩ := id hm
  exact joinA (m' := { m with pc := w16 (m.pc + 3), r4 := w8 ((or16 (w16 (g (ix (or16 (w16 (or16 0 (w16 (g (at1 m.pc 2))) * 256)) (w16 (g (at1 m.pc 1))))))) (w16 (w16 (g (ix (w16 (or16 (w16 (or16 0 (w16 (g (at1 m.pc 2))) * 256)) (w16 (g (at1 m.pc 1))) + 1)))) * 256))).fdiv 256), r5 := w8 (or16 (w16 (g (ix (or16 (w16 (or16 0 (w16 (g (at1 m.pc 2))) * 256)) (w16 (g (at1 m.pc 1))))))) (w16 (w16 (g (ix (w16 (or16 (w16 (or16 0 (w16 (g (at1 m.pc 2))) * 256)) (w16 (g (at1 m.pc 1))) + 1)))) * 256))) }) hm hh h0 (p2a_0 m g _ _) (r2a_0 m g) hg
@[simp] def z2b_0 (m : Mc) : Mc := { m with pc := w16 (m.pc + 1), r4 := w8 ((w16 (or16 (w16 (w16 m.r4 * 256)) (w16 m.r5) - 1)).fdiv 256), r5 := w8 (w16 (or16 (w16 (w16 m.r4 * 256)) (w16 m.r5) - 1)) }
theorem p2b_0 : endsAt [0, 1] (Ly.run ctx3 3000 [] (sP m g 43 b1 b2)) = some (T [], .int .i64 0, 5, hPm (z2b_0 m) (memL g)) := by kernel_rfl
theorem r2b_0 : endsAt [0, 1, 2] (Ly.run ctx3 3000 [(4, true), (14, true), (0, true)] (sR m g 43)) = some (T [inw m.pc && true, inb m.r4 && inb m.r5, inw (256 * m.r4 + m.r5) && true], .int .i64 0, 3, hRm { m with pc := w16 (m.pc + 1), r4 := w8 ((w16 (256 * m.r4 + m.r5 + -1)).fdiv 256), r5 := w8 (and16 (w16 (256 * m.r4 + m.r5 + -1)) 255) } (memL g)) := by kernel_rfl
theorem o2b (hm : m.Ok) (hg : ∀ e, B8 (g e)) (hh : m.halt = false) (h0 : g (ix m.pc) = 43) : Both m g := by
  obtain ⟨r0, r1, r2, r3, r4, r5, r7, sp, pc⟩ := id hm
  exact joinA (m' := (z2b_0 m)) hm hh h0 (p2b_0 m g _ _) (r2b_0 m g) hg
@[simp] def z2c_0 (m : Mc) : Mc := { m with fp := par ((m.r5 + 1) % 256), fs := decide (128 ≤ (m.r5 + 1) % 256), fx := decide (15 < m.r5 % 16 + 1), fz := (m.r5 + 1) % 256 == 0, pc := w16 (m.pc + 1), r5 := (m.r5 + 1) % 256 }
theorem p2c_0 : endsAt [0, 1] (Ly.run ctx3 3000 [(21, true)] (sP m g 44 b1 b2)) = some (T [inb m.r5], .int .i64 0, 5, hPm (z2c_0 m) (memL g)) := by kernel_rfl
theorem r2c_0 : endsAt [0, 1, 2] (Ly.run ctx3 3000 [(4, true), (10, true)] (sR m g 44)) = some (T [inw m.pc && true, inb m.r5], .int .i64 0, 4, hRm (z2c_0 m) (memL g)) := by kernel_rfl
theorem o2c (hm : m.Ok) (hg : ∀ e, B8 (g e)) (hh : m.halt = false) (h0 : g (ix m.pc) = 44) : Both m g := by
  obtain ⟨r0, r1, r2, r3, r4, r5, r7, sp, pc⟩ := id hm
  exact joinA (m' := (z2c_0 m)) hm hh h0 (p2c_0 m g _ _) (r2c_0 m g) hg
@[simp] def z2d_0 (m : Mc) : Mc := { m with fp := par ((m.r5 - 1) % 256), fs := decide (128 ≤ (m.r5 - 1) % 256), fx := decide (15 < m.r5 % 16 + 15), fz := (m.r5 - 1) % 256 == 0, pc := w16 (m.pc + 1), r5 := (m.r5 - 1) % 256 }
theorem p2d_0 : endsAt [0, 1] (Ly.run ctx3 3000 [(22, true)] (sP m g 45 b1 b2)) = some (T [inb m.r5], .int .i64 0, 5, hPm (z2d_0 m) (memL g)) := by kernel_rfl
theorem r2d_0 : endsAt [0, 1, 2] (Ly.run ctx3 3000 [(4, true), (11, true)] (sR m g 45)) = some (T [inw m.pc && true, inb m.r5], .int .i64 0, 4, hRm (z2d_0 m) (memL g)) := by kernel_rfl
theorem o2d (hm : m.Ok) (hg : ∀ e, B8 (g e)) (hh : m.halt = false) (h0 : g (ix m.pc) = 45) : Both m g := by
  obtain ⟨r0, r1, r2, r3, r4, r5, r7, sp, pc⟩ := id hm
  exact joinA (m' := (z2d_0 m)) hm hh h0 (p2d_0 m g _ _) (r2d_0 m g) hg
theorem p2e_0 : endsAt [0, 1] (Ly.run ctx3 3000 [] (sP m g 46 b1 b2)) = some (T [], .int .i64 0, 5, hPm { m with pc := w16 (m.pc + 2), r5 := w8 (or16 0 (w16 b1)) } (memL g)) := by kernel_rfl
theorem r2e_0 : endsAt [0, 1, 2] (Ly.run ctx3 3000 [(3, true), (0, true), (0, true), (1, true)] (sR m g 46)) = some (T [inw m.pc && true, rg (w16 (m.pc + 1)), bl (ix (w16 (m.pc + 1))), inw m.pc && true], .int .i64 0, 3, hRm { m with pc := w16 (m.pc + 2), r5 := w8 (w16 (g (ix (w16 (m.pc + 1))))) } (memL g)) := by kernel_rfl
theorem o2e (hm : m.Ok) (hg : ∀ e, B8 (g e)) (hh : m.halt = false) (h0 : g (ix m.pc) = 46) : Both m g := by
  obtain ⟨r0, r1, r2, r3, r4, r5, r7, sp, pc⟩ := id hm
  exact joinA (m' := { m with pc := w16 (m.pc + 2), r5 := w8 (or16 0 (w16 (g (at1 m.pc 1)))) }) hm hh h0 (p2e_0 m g _ _) (r2e_0 m g) hg
@[simp] def z2f_0 (m : Mc) : Mc := { m with pc := w16 (m.pc + 1), r7 := xor8 255 m.r7 }
theorem p2f_0 : endsAt [0, 1] (Ly.run ctx3 3000 [] (sP m g 47 b1 b2)) = some (T [], .int .i64 0, 5, hPm (z2f_0 m) (memL g)) := by kernel_rfl
theorem r2f_0 : endsAt [0, 1, 2] (Ly.run ctx3 3000 [(4, true)] (sR m g 47)) = some (T [inw m.pc && true], .int .i64 0, 3, hRm { m with pc := w16 (m.pc + 1), r7 := w8 (255 - m.r7) } (memL g)) := by kernel_rfl
theorem o2f (hm : m.Ok) (hg : ∀ e, B8 (g e)) (hh : m.halt = false) (h0 : g (ix m.pc) = 47) : Both m g := by
  obtain ⟨r0, r1, r2, r3, r4, r5, r7, sp, pc⟩ := id hm
  exact joinA (m' := (z2f_0 m)) hm hh h0 (p2f_0 m g _ _) (r2f_0 m g) hg
theorem blk2 (m : Mc) (g : Nat → Int) (hm : m.Ok) (hg : ∀ e, B8 (g e)) (hh : m.halt = false) (h1 : 32 ≤ g (ix m.pc)) (h2 : g (ix m.pc) < 48) : Both m g := by
  have h : g (ix m.pc) = 32 ∨ g (ix m.pc) = 33 ∨ g (ix m.pc) = 34 ∨ g (ix m.pc) = 35 ∨ g (ix m.pc) = 36 ∨ g (ix m.pc) = 37 ∨ g (ix m.pc) = 38 ∨ g (ix m.pc) = 39 ∨ g (ix m.pc) = 40 ∨ g (ix m.pc) = 41 ∨ g (ix m.pc) = 42 ∨ g (ix m.pc) = 43 ∨ g (ix m.pc) = 44 ∨ g (ix m.pc) = 45 ∨ g (ix m.pc) = 46 ∨ g (ix m.pc) = 47 := by omega
  rcases h with h | h | h | h | h | h | h | h | h | h | h | h | h | h | h | h
  · exact o20 m g hm hg hh h
  · exact o21 m g hm hg hh h
  · exact o22 m g hm hg hh h
  · exact o23 m g hm hg hh h
  · exact o24 m g hm hg hh h
  · exact o25 m g hm hg hh h
  · exact o26 m g hm hg hh h
  · exact o27 m g hm hg hh h
  · exact o28 m g hm hg hh h
  · exact o29 m g hm hg hh h
  · exact o2a m g hm hg hh h
  · exact o2b m g hm hg hh h
  · exact o2c m g hm hg hh h
  · exact o2d m g hm hg hh h
  · exact o2e m g hm hg hh h
  · exact o2f m g hm hg hh h
end Go.Proofs.Ytpggoincnebfnaa
namespace Go.Proofs.Ytpggoincnebfnaa
open Go Go.Ly Go.RowKit
variable (m : Mc) (g : Nat → Int) (b1 b2 : Int)
theorem p30_0 : endsAt [0, 1] (Ly.run ctx3 3000 [] (sP m g 48 b1 b2)) = some (T [], .int .i64 8, 5, hPm m (memL g)) := by kernel_rfl
theorem r30_0 : endsAt [0, 1, 2] (Ly.run ctx3 3000 [] (sR m g 48)) = some (T [], .int .i64 8, 3, hRm m (memL g)) := by kernel_rfl
theorem o30 (hm : m.Ok) (hg : ∀ e, B8 (g e)) (hh : m.halt = false) (h0 : g (ix m.pc) = 48) : Both m g := by
  obtain ⟨r0, r1, r2, r3, r4, r5, r7, sp, pc⟩ := id hm
  exact join (m' := m) (g' := g) hm hh h0 (p30_0 m g _ _) (r30_0 m g) (by simp [*]) (by simp [*]) (by decide) (by decide) (eP (.inl rfl)) (eR rfl (.inl rfl)) (by constructor <;> simp [*]) hg
theorem p31_0 : endsAt [0, 1] (Ly.run ctx3 3000 [] (sP m g 49 b1 b2)) = some (T [], .int .i64 0, 5, hPm { m with pc := w16 (m.pc + 3), sp := or16 (w16 (or16 0 (w16 b2) * 256)) (w16 b1) } (memL g)) := by kernel_rfl
theorem r31_0 : endsAt [0, 1, 2] (Ly.run ctx3 3000 [(3, true), (0, true), (0, true), (1, true), (0, true), (0, true), (0, true)] (sR m g 49)) = some (T [inw m.pc && true, rg (w16 (m.pc + 1)), bl (ix (w16 (m.pc + 1))), inw m.pc && true, rg (w16 (m.pc + 2)), bl (ix (w16 (m.pc + 2))), inw m.pc && true], .int .i64 0, 3, hRm { m with pc := w16 (m.pc + 3), sp := w16 (w16 (g (ix (w16 (m.pc + 1)))) + w16 (w16 (g (ix (w16 (m.pc + 2)))) * 256)) } (memL g)) := by kernel_rfl
theorem o31 (hm : m.Ok) (hg : ∀ e, B8 (g e)) (hh : m.halt = false) (h0 : g (ix m.pc) = 49) : Both m g := by
  obtain ⟨r0, r1, r2, r3, r4, r5, r7, sp, pc⟩ := id hm
  exact joinA (m' := { m with pc := w16 (m.pc + 3), sp := or16 (w16 (or16 0 (w16 (g (at1 m.pc 2))) * 256)) (w16 (g (at1 m.pc 1))) }) hm hh h0 (p31_0 m g _ _) (r31_0 m g) hg
theorem p32_0 : endsAt [0, 1] (Ly.run ctx3 3000 [(32, true), (0, true)] (sP m g 50 b1 b2)) = some (T [(true && lt16 (or16 (w16 (or16 0 (w16 b2) * 256)) (w16 b1))), bl (ix (or16 (w16 (or16 0 (w16 b2) * 256)) (w16 b1)))], .int .i64 0, 5, hPm { m with pc := w16 (m.pc + 3) } (M1 g (ix (or16 (w16 (or16 0 (w16 b2) * 256)) (w16 b1))) (m.r7))) := by kernel_rfl
theorem r32_0 : endsAt [0, 1, 2] (Ly.run ctx3 3000 [(3, true), (0, true), (0, true), (1, true), (0, true), (0, true), (0, true), (11, true), (0, true)] (sR m g 50)) = some (T [inw m.pc && true, rg (w16 (m.pc + 1)), bl (ix (w16 (m.pc + 1))), inw m.pc && true, rg (w16 (m.pc + 2)), bl (ix (w16 (m.pc + 2))), inw m.pc && true, rg (w16 (w16 (g (ix (w16 (m.pc + 1)))) + w16 (w16 (g (ix (w16 (m.pc + 2)))) * 256))), bl (ix (w16 (w16 (g (ix (w16 (m.pc + 1)))) + w16 (w16 (g (ix (w16 (m.pc + 2)))) * 256))))], .int .i64 0, 3, hRm { m with pc := w16 (m.pc + 3) } (M1 g (ix (w16 (w16 (g (ix (w16 (m.pc + 1)))) + w16 (w16 (g (ix (w16 (m.pc + 2)))) * 256)))) (m.r7))) := by kernel_rfl
theorem o32 (hm : m.Ok) (hg : ∀ e, B8 (g e)) (hh : m.halt = false) (h0 : g (ix m.pc) = 50) : Both m g := by
  obtain ⟨r0, r1, r2, r3, r4, r5, r7, sp, pc⟩ := id hm
  exact join (m' := { m with pc := w16 (m.pc + 3) }) (g' := (upd g (ix (or16 (w16 (or16 0 (w16 (g (at1 m.pc 2))) * 256)) (w16 (g (at1 m.pc 1))))) (m.r7))) hm hh h0 (p32_0 m g _ _) (r32_0 m g) (by simp [*]) (by simp [*]) (by decide) (by decide) (eP (m1s rfl rfl)) (eR rfl (m1s (by simp [*]) (by simp [*]))) (by constructor <;> simp [*]) (upd_b8 hg (by simp [*]))
@[simp] def z33_0 (m : Mc) : Mc := { m with pc := w16 (m.pc + 1), sp := w16 (m.sp + 1) }
theorem p33_0 : endsAt [0, 1] (Ly.run ctx3 3000 [] (sP m g 51 b1 b2)) = some (T [], .int .i64 0, 5, hPm (z33_0 m) (memL g)) := by kernel_rfl
theorem r33_0 : endsAt [0, 1, 2] (Ly.run ctx3 3000 [(4, true), (13, true)] (sR m g 51)) = some (T [inw m.pc && true, inw m.sp && true], .int .i64 0, 3, hRm (z33_0 m) (memL g)) := by kernel_rfl
theorem o33 (hm : m.Ok) (hg : ∀ e, B8 (g e)) (hh : m.halt = false) (h0 : g (ix m.pc) = 51) : Both m g := by
  obtain ⟨r0, r1, r2, r3, r4, r5, r7, sp, pc⟩ := id hm
  exact joinA (m' := (z33_0 m)) hm hh h0 (p33_0 m g _ _) (r33_0 m g) hg
@[simp] def z34_0 (m : Mc) (g : Nat → Int) : Mc := { m with fp := par ((g (ix (or16 (w16 (w16 m.r4 * 256)) (w16 m.r5))) + 1) % 256), fs := decide (128 ≤ (g (ix (or16 (w16 (w16 m.r4 * 256)) (w16 m.r5))) + 1) % 256), fx := decide (15 < g (ix (or16 (w16 (w16 m.r4 * 256)) (w16 m.r5))) % 16 + 1), fz := (g (ix (or16 (w16 (w16 m.r4 * 256)) (w16 m.r5))) + 1) % 256 == 0, pc := w16 (m.pc + 1) }
theorem p34_0 : endsAt [0, 1] (Ly.run ctx3 3000 [(31, true), (0, true), (0, true), (0, true)] (sP m g 52 b1 b2)) = some (T [(true && lt16 (or16 (w16 (w16 m.r4 * 256)) (w16 m.r5))), bl (ix (or16 (w16 (w16 m.r4 * 256)) (w16 m.r5))), inb (g (ix (or16 (w16 (w16 m.r4 * 256)) (w16 m.r5)))), bl (ix (or16 (w16 (w16 m.r4 * 256)) (w16 m.r5)))], .int .i64 0, 5, hPm (z34_0 m g) (M1 g (ix (or16 (w16 (w16 m.r4 * 256)) (w16 m.r5))) ((g (ix (or16 (w16 (w16 m.r4 * 256)) (w16 m.r5))) + 1) % 256))) := by kernel_rfl
theorem r34_0 : endsAt [0, 1, 2] (Ly.run ctx3 3000 [(4, true), (15, true), (0, true), (0, true), (0, true), (7, true), (0, true), (0, true)] (sR m g 52)) = some (T [inw m.pc && true, inb m.r4 && inb m.r5, rg (256 * m.r4 + m.r5), bl (ix (256 * m.r4 + m.r5)), inb (g (ix (256 * m.r4 + m.r5))), inb m.r4 && inb m.r5, rg (256 * m.r4 + m.r5), bl (ix (256 * m.r4 + m.r5))], .int .i64 0, 4, hRm { m with fp := par ((g (ix (256 * m.r4 + m.r5)) + 1) % 256), fs := decide (128 ≤ (g (ix (256 * m.r4 + m.r5)) + 1) % 256), fx := decide (15 < g (ix (256 * m.r4 + m.r5)) % 16 + 1), fz := (g (ix (256 * m.r4 + m.r5)) + 1) % 256 == 0, pc := w16 (m.pc + 1) } (M1 g (ix (256 * m.r4 + m.r5)) ((g (ix (256 * m.r4 + m.r5)) + 1) % 256))) := by kernel_rfl
theorem o34 (hm : m.Ok) (hg : ∀ e, B8 (g e)) (hh : m.halt = false) (h0 : g (ix m.pc) = 52) : Both m g := by
  obtain ⟨r0, r1, r2, r3, r4, r5, r7, sp, pc⟩ := id hm
  exact join (m' := (z34_0 m g)) (g' := (upd g (ix (or16 (w16 (w16 m.r4 * 256)) (w16 m.r5))) ((g (ix (or16 (w16 (w16 m.r4 * 256)) (w16 m.r5))) + 1) % 256))) hm hh h0 (p34_0 m g _ _) (r34_0 m g) (by simp [*]) (by simp [*]) (by decide) (by decide) (eP (m1s rfl rfl)) (eR (by simp [*]) (m1s (by simp [*]) (by simp [*]))) (by constructor <;> simp [*]) (upd_b8 hg (by simp [*]))
@[simp] def z35_0 (m : Mc) (g : Nat → Int) : Mc := { m with fp := par ((g (ix (or16 (w16 (w16 m.r4 * 256)) (w16 m.r5))) - 1) % 256), fs := decide (128 ≤ (g (ix (or16 (w16 (w16 m.r4 * 256)) (w16 m.r5))) - 1) % 256), fx := decide (15 < g (ix (or16 (w16 (w16 m.r4 * 256)) (w16 m.r5))) % 16 + 15), fz := (g (ix (or16 (w16 (w16 m.r4 * 256)) (w16 m.r5))) - 1) % 256 == 0, pc := w16 (m.pc + 1) }
theorem p35_0 : endsAt [0, 1] (Ly.run ctx3 3000 [(32, true), (0, true), (0, true), (0, true)] (sP m g 53 b1 b2)) = some (T [(true && lt16 (or16 (w16 (w16 m.r4 * 256)) (w16 m.r5))), bl (ix (or16 (w16 (w16 m.r4 * 256)) (w16 m.r5))), inb (g (ix (or16 (w16 (w16 m.r4 * 256)) (w16 m.r5)))), bl (ix (or16 (w16 (w16 m.r4 * 256)) (w16 m.r5)))], .int .i64 0, 5, hPm (z35_0 m g) (M1 g (ix (or16 (w16 (w16 m.r4 * 256)) (w16 m.r5))) ((g (ix (or16 (w16 (w16 m.r4 * 256)) (w16 m.r5))) - 1) % 256))) := by kernel_rfl
theorem r35_0 : endsAt [0, 1, 2] (Ly.run ctx3 3000 [(4, true), (16, true), (0, true), (0, true), (0, true), (7, true), (0, true), (0, true)] (sR m g 53)) = some (T [inw m.pc && true, inb m.r4 && inb m.r5, rg (256 * m.r4 + m.r5), bl (ix (256 * m.r4 + m.r5)), inb (g (ix (256 * m.r4 + m.r5))), inb m.r4 && inb m.r5, rg (256 * m.r4 + m.r5), bl (ix (256 * m.r4 + m.r5))], .int .i64 0, 4, hRm { m with fp := par ((g (ix (256 * m.r4 + m.r5)) - 1) % 256), fs := decide (128 ≤ (g (ix (256 * m.r4 + m.r5)) - 1) % 256), fx := decide (15 < g (ix (256 * m.r4 + m.r5)) % 16 + 15), fz := (g (ix (256 * m.r4 + m.r5)) - 1) % 256 == 0, pc := w16 (m.pc + 1) } (M1 g (ix (256 * m.r4 + m.r5)) ((g (ix (256 * m.r4 + m.r5)) - 1) % 256))) := by kernel_rfl
theorem o35 (hm : m.Ok) (hg : ∀ e, B8 (g e)) (hh : m.halt = false) (h0 : g (ix m.pc) = 53) : Both m g := by
  obtain ⟨r0, r1, r2, r3, r4, r5, r7, sp, pc⟩ := id hm
  exact join (m' := (z35_0 m g)) (g' := (upd g (ix (or16 (w16 (w16 m.r4 * 256)) (w16 m.r5))) ((g (ix (or16 (w16 (w16 m.r4 * 256)) (w16 m.r5))) - 1) % 256))) hm hh h0 (p35_0 m g _ _) (r35_0 m g) (by simp [*]) (by simp [*]) (by decide) (by decide) (eP (m1s rfl rfl)) (eR (by simp [*]) (m1s (by simp [*]) (by simp [*]))) (by constructor <;> simp [*]) (upd_b8 hg (by simp [*]))
theorem p36_0 : endsAt [0, 1] (Ly.run ctx3 3000 [(36, true), (0, true)] (sP m g 54 b1 b2)) = some (T [(true && lt16 (or16 (w16 (w16 m.r4 * 256)) (w16 m.r5))), bl (ix (or16 (w16 (w16 m.r4 * 256)) (w16 m.r5)))], .int .i64 0, 5, hPm { m with pc := w16 (m.pc + 2) } (M1 g (ix (or16 (w16 (w16 m.r4 * 256)) (w16 m.r5))) (w8 (or16 0 (w16 b1))))) := by kernel_rfl
theorem r36_0 : endsAt [0, 1, 2] (Ly.run ctx3 3000 [(3, true), (0, true), (0, true), (1, true), (17, true), (0, true), (0, true)] (sR m g 54)) = some (T [inw m.pc && true, rg (w16 (m.pc + 1)), bl (ix (w16 (m.pc + 1))), inw m.pc && true, inb m.r4 && inb m.r5, rg (256 * m.r4 + m.r5), bl (ix (256 * m.r4 + m.r5))], .int .i64 0, 3, hRm { m with pc := w16 (m.pc + 2) } (M1 g (ix (256 * m.r4 + m.r5)) (w8 (w16 (g (ix (w16 (m.pc + 1)))))))) := by kernel_rfl
theorem o36 (hm : m.Ok) (hg : ∀ e, B8 (g e)) (hh : m.halt = false) (h0 : g (ix m.pc) = 54) : Both m g := by
  obtain ⟨r0, r1, r2, r3, r4, r5, r7, sp, pc⟩ := id hm
  exact join (m' := { m with pc := w16 (m.pc + 2) }) (g' := (upd g (ix (or16 (w16 (w16 m.r4 * 256)) (w16 m.r5))) (w8 (or16 0 (w16 (g (at1 m.pc 1))))))) hm hh h0 (p36_0 m g _ _) (r36_0 m g) (by simp [*]) (by simp [*]) (by decide) (by decide) (eP (m1s rfl rfl)) (eR rfl (m1s (by simp [*]) (by simp [*]))) (by constructor <;> simp [*]) (upd_b8 hg (by simp [*]))
@[simp] def z37_0 (m : Mc) : Mc := { m with fc := true, pc := w16 (m.pc + 1) }
theorem p37_0 : endsAt [0, 1] (Ly.run ctx3 3000 [] (sP m g 55 b1 b2)) = some (T [], .int .i64 0, 5, hPm (z37_0 m) (memL g)) := by kernel_rfl
theorem r37_0 : endsAt [0, 1, 2] (Ly.run ctx3 3000 [(4, true)] (sR m g 55)) = some (T [inw m.pc && true], .int .i64 0, 3, hRm (z37_0 m) (memL g)) := by kernel_rfl
theorem o37 (hm : m.Ok) (hg : ∀ e, B8 (g e)) (hh : m.halt = false) (h0 : g (ix m.pc) = 55) : Both m g := by
  obtain ⟨r0, r1, r2, r3, r4, r5, r7, sp, pc⟩ := id hm
  exact joinA (m' := (z37_0 m)) hm hh h0 (p37_0 m g _ _) (r37_0 m g) hg
theorem p38_0 : endsAt [0, 1] (Ly.run ctx3 3000 [] (sP m g 56 b1 b2)) = some (T [], .int .i64 8, 5, hPm m (memL g)) := by kernel_rfl
theorem r38_0 : endsAt [0, 1, 2] (Ly.run ctx3 3000 [] (sR m g 56)) = some (T [], .int .i64 8, 3, hRm m (memL g)) := by kernel_rfl
theorem o38 (hm : m.Ok) (hg : ∀ e, B8 (g e)) (hh : m.halt = false) (h0 : g (ix m.pc) = 56) : Both m g := by
  obtain ⟨r0, r1, r2, r3, r4, r5, r7, sp, pc⟩ := id hm
  exact join (m' := m) (g' := g) hm hh h0 (p38_0 m g _ _) (r38_0 m g) (by simp [*]) (by simp [*]) (by decide) (by decide) (eP (.inl rfl)) (eR rfl (.inl rfl)) (by constructor <;> simp [*]) hg
@[simp] def z39_0 (m : Mc) : Mc := { m with fc := decide (65535 < or16 (w16 (w16 m.r4 * 256)) (w16 m.r5) + m.sp), pc := w16 (m.pc + 1), r4 := w8 (((or16 (w16 (w16 m.r4 * 256)) (w16 m.r5) + m.sp) % 65536).fdiv 256), r5 := w8 ((or16 (w16 (w16 m.r4 * 256)) (w16 m.r5) + m.sp) % 65536) }
theorem p39_0 : endsAt [0, 1] (Ly.run ctx3 3000 [(34, true)] (sP m g 57 b1 b2)) = some (T [true && decide (or16 (w16 (w16 m.r4 * 256)) (w16 m.r5) ≤ 65535) && (decide (0 ≤ m.sp) && decide (m.sp ≤ 65535))], .int .i64 0, 5, hPm (z39_0 m) (memL g)) := by kernel_rfl
theorem r39_0 : endsAt [0, 1, 2] (Ly.run ctx3 3000 [(4, true), (12, true), (5, true)] (sR m g 57)) = some (T [inw m.pc && true, inb m.r4 && inb m.r5, decide (0 ≤ 256 * m.r4 + m.r5) && decide (256 * m.r4 + m.r5 ≤ 65535) && (decide (0 ≤ m.sp) && decide (m.sp ≤ 65535))], .int .i64 0, 3, hRm { m with fc := decide (65535 < 256 * m.r4 + m.r5 + m.sp), pc := w16 (m.pc + 1), r4 := w8 (((256 * m.r4 + m.r5 + m.sp) % 65536).fdiv 256), r5 := w8 (and16 ((256 * m.r4 + m.r5 + m.sp) % 65536) 255) } (memL g)) := by kernel_rfl
theorem o39 (hm : m.Ok) (hg : ∀ e, B8 (g e)) (hh : m.halt = false) (h0 : g (ix m.pc) = 57) : Both m g := by
  obtain ⟨r0, r1, r2, r3, r4, r5, r7, sp, pc⟩ := id hm
  exact join (m' := (z39_0 m)) (g' := g) hm hh h0 (p39_0 m g _ _) (r39_0 m g) (by simp [*]; unfold B8 B16 at *; omega) (by simp [*]; unfold B8 B16 at *; omega) (by decide) (by decide) (eP (.inl rfl)) (eR (by simp [*]) (.inl rfl)) (by constructor <;> simp [*]) hg
theorem p3a_0 : endsAt [0, 1] (Ly.run ctx3 3000 [(32, true), (0, true)] (sP m g 58 b1 b2)) = some (T [(true && lt16 (or16 (w16 (or16 0 (w16 b2) * 256)) (w16 b1))), bl (ix (or16 (w16 (or16 0 (w16 b2) * 256)) (w16 b1)))], .int .i64 0, 5, hPm { m with pc := w16 (m.pc + 3), r7 := g (ix (or16 (w16 (or16 0 (w16 b2) * 256)) (w16 b1))) } (memL g)) := by kernel_rfl
theorem r3a_0 : endsAt [0, 1, 2] (Ly.run ctx3 3000 [(3, true), (0, true), (0, true), (1, true), (0, true), (0, true), (0, true), (10, true), (0, true)] (sR m g 58)) = some (T [inw m.pc && true, rg (w16 (m.pc + 1)), bl (ix (w16 (m.pc + 1))), inw m.pc && true, rg (w16 (m.pc + 2)), bl (ix (w16 (m.pc + 2))), inw m.pc && true, rg (w16 (w16 (g (ix (w16 (m.pc + 1)))) + w16 (w16 (g (ix (w16 (m.pc + 2)))) * 256))), bl (ix (w16 (w16 (g (ix (w16 (m.pc + 1)))) + w16 (w16 (g (ix (w16 (m.pc + 2)))) * 256))))], .int .i64 0, 3, hRm { m with pc := w16 (m.pc + 3), r7 := g (ix (w16 (w16 (g (ix (w16 (m.pc + 1)))) + w16 (w16 (g (ix (w16 (m.pc + 2)))) * 256)))) } (memL g)) := by kernel_rfl
theorem o3a (hm : m.Ok) (hg : ∀ e, B8 (g e)) (hh : m.halt = false) (h0 : g (ix m.pc) = 58) : Both m g := by
  obtain ⟨r0, r1, r2, r3, r4, r5, r7, sp, pc⟩ := id hm
  exact joinA (m' := { m with pc := w16 (m.pc + 3), r7 := g (ix (or16 (w16 (or16 0 (w16 (g (at1 m.pc 2))) * 256)) (w16 (g (at1 m.pc 1))))) }) hm hh h0 (p3a_0 m g _ _) (r3a_0 m g) hg
@[simp] def z3b_0 (m : Mc) : Mc := { m with pc := w16 (m.pc + 1), sp := w16 (m.sp - 1) }
theorem p3b_0 : endsAt [0, 1] (Ly.run ctx3 3000 [] (sP m g 59 b1 b2)) = some (T [], .int .i64 0, 5, hPm (z3b_0 m) (memL g)) := by kernel_rfl
theorem r3b_0 : endsAt [0, 1, 2] (Ly.run ctx3 3000 [(4, true), (13, true)] (sR m g 59)) = some (T [inw m.pc && true, inw m.sp && true], .int .i64 0, 3, hRm { m with pc := w16 (m.pc + 1), sp := w16 (m.sp + -1) } (memL g)) := by kernel_rfl
theorem o3b (hm : m.Ok) (hg : ∀ e, B8 (g e)) (hh : m.halt = false) (h0 : g (ix m.pc) = 59) : Both m g := by
  obtain ⟨r0, r1, r2, r3, r4, r5, r7, sp, pc⟩ := id hm
  exact joinA (m' := (z3b_0 m)) hm hh h0 (p3b_0 m g _ _) (r3b_0 m g) hg
@[simp] def z3c_0 (m : Mc) : Mc := { m with fp := par ((m.r7 + 1) % 256), fs := decide (128 ≤ (m.r7 + 1) % 256), fx := decide (15 < m.r7 % 16 + 1), fz := (m.r7 + 1) % 256 == 0, pc := w16 (m.pc + 1), r7 := (m.r7 + 1) % 256 }
theorem p3c_0 : endsAt [0, 1] (Ly.run ctx3 3000 [(21, true)] (sP m g 60 b1 b2)) = some (T [inb m.r7], .int .i64 0, 5, hPm (z3c_0 m) (memL g)) := by kernel_rfl
theorem r3c_0 : endsAt [0, 1, 2] (Ly.run ctx3 3000 [(4, true), (10, true)] (sR m g 60)) = some (T [inw m.pc && true, inb m.r7], .int .i64 0, 4, hRm (z3c_0 m) (memL g)) := by kernel_rfl
theorem o3c (hm : m.Ok) (hg : ∀ e, B8 (g e)) (hh : m.halt = false) (h0 : g (ix m.pc) = 60) : Both m g := by
  obtain ⟨r0, r1, r2, r3, r4, r5, r7, sp, pc⟩ := id hm
  exact joinA (m' := (z3c_0 m)) hm hh h0 (p3c_0 m g _ _) (r3c_0 m g) hg
@[simp] def z3d_0 (m : Mc) : Mc := { m with fp := par ((m.r7 - 1) % 256), fs := decide (128 ≤ (m.r7 - 1) % 256), fx := decide (15 < m.r7 % 16 + 15), fz := (m.r7 - 1) % 256 == 0, pc := w16 (m.pc + 1), r7 := (m.r7 - 1) % 256 }
theorem p3d_0 : endsAt [0, 1] (Ly.run ctx3 3000 [(22, true)] (sP m g 61 b1 b2)) = some (T [inb m.r7], .int .i64 0, 5, hPm (z3d_0 m) (memL g)) := by kernel_rfl
theorem r3d_0 : endsAt [0, 1, 2] (Ly.run ctx3 3000 [(4, true), (11, true)] (sR m g 61)) = some (T [inw m.pc && true, inb m.r7], .int .i64 0, 4, hRm (z3d_0 m) (memL g)) := by kernel_rfl
theorem o3d (hm : m.Ok) (hg : ∀ e, B8 (g e)) (hh : m.halt = false) (h0 : g (ix m.pc) = 61) : Both m g := by
  obtain ⟨r0, r1, r2, r3, r4, r5, r7, sp, pc⟩ := id hm
  exact joinA (m' := (z3d_0 m)) hm hh h0 (p3d_0 m g _ _) (r3d_0 m g) hg
theorem p3e_0 : endsAt [0, 1] (Ly.run ctx3 3000 [] (sP m g 62 b1 b2)) = some (T [], .int .i64 0, 5, hPm { m with pc := w16 (m.pc + 2), r7 := w8 (or16 0 (w16 b1)) } (memL g)) := by kernel_rfl
theorem r3e_0 : endsAt [0, 1, 2] (Ly.run ctx3 3000 [(3, true), (0, true), (0, true), (1, true)] (sR m g 62)) = some (T [inw m.pc && true, rg (w16 (m.pc + 1)), bl (ix (w16 (m.pc + 1))), inw m.pc && true], .int .i64 0, 3, hRm { m with pc := w16 (m.pc + 2), r7 := w8 (w16 (g (ix (w16 (m.pc + 1))))) } (memL g)) := by kernel_rfl
theorem o3e (hm : m.Ok) (hg : ∀ e, B8 (g e)) (hh : m.halt = false) (h0 : g (ix m.pc) = 62) : Both m g := by
  obtain ⟨r0, r1, r2, r3, r4, r5, r7, sp, pc⟩ := id hm
  exact joinA (m' := { m with pc := w16 (m.pc + 2), r7 := w8 (or16 0 (w16 (g (at1 m.pc 1)))) }) hm hh h0 (p3e_0 m g _ _) (r3e_0 m g) hg
@[simp] def z3f_0 (m : Mc) : Mc := { m with fc := !m.fc, pc := w16 (m.pc + 1) }
theorem p3f_0 : endsAt [0, 1] (Ly.run ctx3 3000 [] (sP m g 63 b1 b2)) = some (T [], .int .i64 0, 5, hPm (z3f_0 m) (memL g)) := by kernel_rfl
theorem r3f_0 : endsAt [0, 1, 2] (Ly.run ctx3 3000 [(4, true)] (sR m g 63)) = some (T [inw m.pc && true], .int .i64 0, 3, hRm (z3f_0 m) (memL g)) := by kernel_rfl
theorem o3f (hm : m.Ok) (hg : ∀ e, B8 (g e)) (hh : m.halt = false) (h0 : g (ix m.pc) = 63) : Both m g := by
  obtain ⟨r0, r1, r2, r3, r4, r5, r7, sp, pc⟩ := id hm
  exact joinA (m' := (z3f_0 m)) hm hh h0 (p3f_0 m g _ _) (r3f_0 m g) hg
theorem blk3 (m : Mc) (g : Nat → Int) (hm : m.Ok) (hg : ∀ e, B8 (g e)) (hh : m.halt = false) (h1 : 48 ≤ g (ix m.pc)) (h2 : g (ix m.pc) < 64) : Both m g := by
  have h : g (ix m.pc) = 48 ∨ g (ix m.pc) = 49 ∨ g (ix m.pc) = 50 ∨ g (ix m.pc) = 51 ∨ g (ix m.pc) = 52 ∨ g (ix m.pc) = 53 ∨ g (ix m.pc) = 54 ∨ g (ix m.pc) = 55 ∨ g (ix m.pc) = 56 ∨ g (ix m.pc) = 57 ∨ g (ix m.pc) = 58 ∨ g (ix m.pc) = 59 ∨ g (ix m.pc) = 60 ∨ g (ix m.pc) = 61 ∨ g (ix m.pc) = 62 ∨ g (ix m.pc) = 63 := by omega
  rcases h with h | h | h | h | h | h | h | h | h | h | h | h | h | h | h | h
  · exact o30 m g hm hg hh h
  · exact o31 m g hm hg hh h
  · exact o32 m g hm hg hh h
  · exact o33 m g hm hg hh h
  · exact o34 m g hm hg hh h
  · exact o35 m g hm hg hh h
  · exact o36 m g hm hg hh h
  · exact o37 m g hm hg hh h
  · exact o38 m g hm hg hh h
  · exact o39 m g hm hg hh h
  · exact o3a m g hm hg hh h
  · exact o3b m g hm hg hh h
  · exact o3c m g hm hg hh h
  · exact o3d m g hm hg hh h
  · exact o3e m g hm hg hh h
  · exact o3f m g hm hg hh h
end Go.Proofs.Ytpggoincnebfnaa
namespace Go.Proofs.Ytpggoincnebfnaa
open Go Go.Ly Go.RowKit
variable (m : Mc) (g : Nat → Int) (b1 b2 : Int)
theorem p40_0 : endsAt [0, 1] (Ly.run ctx3 3000 [] (sP m g 64 b1 b2)) = some (T [], .int .i64 0, 5, hPm { m with pc := w16 (m.pc + 1) } (memL g)) := by kernel_rfl
theorem r40_0 : endsAt [0, 1, 2] (Ly.run ctx3 3000 [(4, true)] (sR m g 64)) = some (T [inw m.pc && true], .int .i64 0, 3, hRm { m with pc := w16 (m.pc + 1) } (memL g)) := by kernel_rfl
theorem o40 (hm : m.Ok) (hg : ∀ e, B8 (g e)) (hh : m.halt = false) (h0 : g (ix m.pc) = 64) : Both m g := by
  obtain ⟨r0, r1, r2, r3, r4, r5, r7, sp, pc⟩ := id hm
  exact joinA (m' := { m with pc := w16 (m.pc + 1) }) hm hh h0 (p40_0 m g _ _) (r40_0 m g) hg
@[simp] def z41_0 (m : Mc) : Mc := { m with pc := w16 (m.pc + 1), r0 := m.r1 }
theorem p41_0 : endsAt [0, 1] (Ly.run ctx3 3000 [] (sP m g 65 b1 b2)) = some (T [], .int .i64 0, 5, hPm (z41_0 m) (memL g)) := by kernel_rfl
theorem r41_0 : endsAt [0, 1, 2] (Ly.run ctx3 3000 [(4, true)] (sR m g 65)) = some (T [inw m.pc && true], .int .i64 0, 3, hRm (z41_0 m) (memL g)) := by kernel_rfl
theorem o41 (hm : m.Ok) (hg : ∀ e, B8 (g e)) (hh : m.halt = false) (h0 : g (ix m.pc) = 65) : Both m g := by
  obtain ⟨r0, r1, r2, r3, r4, r5, r7, sp, pc⟩ := id hm
  exact joinA (m' := (z41_0 m)) hm hh h0 (p41_0 m g _ _) (r41_0 m g) hg
@[simp] def z42_0 (m : Mc) : Mc := { m with pc := w16 (m.pc + 1), r0 := m.r2 }
theorem p42_0 : endsAt [0, 1] (Ly.run ctx3 3000 [] (sP m g 66 b1 b2)) = some (T [], .int .i64 0, 5, hPm (z42_0 m) (memL g)) := by kernel_rfl
theorem r42_0 : endsAt [0, 1, 2] (Ly.run ctx3 3000 [(4, true)] (sR m g 66)) = some (T [inw m.pc && true], .int .i64 0, 3, hRm (z42_0 m) (memL g)) := by kernel_rfl
theorem o42 (hm : m.Ok) (hg : ∀ e, B8 (g e)) (hh : m.halt = false) (h0 : g (ix m.pc) = 66) : Both m g := by
  obtain ⟨r0, r1, r2, r3, r4, r5, r7, sp, pc⟩ := id hm
  exact joinA (m' := (z42_0 m)) hm hh h0 (p42_0 m g _ _) (r42_0 m g) hg
@[simp] def z43_0 (m : Mc) : Mc := { m with pc := w16 (m.pc + 1), r0 := m.r3 }
theorem p43_0 : endsAt [0, 1] (Ly.run ctx3 3000 [] (sP m g 67 b1 b2)) = some (T [], .int .i64 0, 5, hPm (z43_0 m) (memL g)) := by kernel_rfl
theorem r43_0 : endsAt [0, 1, 2] (Ly.run ctx3 3000 [(4, true)] (sR m g 67)) = some (T [inw m.pc && true], .int .i64 0, 3, hRm (z43_0 m) (memL g)) := by kernel_rfl
theorem o43 (hm : m.Ok) (hg : ∀ e, B8 (g e)) (hh : m.halt = false) (h0 : g (ix m.pc) = 67) : Both m g := by
  obtain ⟨r0, r1, r2, r3, r4, r5, r7, sp, pc⟩ := id hm
  exact joinA (m' := (z43_0 m)) hm hh h0 (p43_0 m g _ _) (r43_0 m g) hg
@[simp] def z44_0 (m : Mc) : Mc := { m with pc := w16 (m.pc + 1), r0 := m.r4 }
theorem p44_0 : endsAt [0, 1] (Ly.run ctx3 3000 [] (sP m g 68 b1 b2)) = some (T [], .int .i64 0, 5, hPm (z44_0 m) (memL g)) := by kernel_rfl
theorem r44_0 : endsAt [0, 1, 2] (Ly.run ctx3 3000 [(4, true)] (sR m g 68)) = some (T [inw m.pc && true], .int .i64 0, 3, hRm (z44_0 m) (memL g)) := by kernel_rfl
theorem o44 (hm : m.Ok) (hg : ∀ e, B8 (g e)) (hh : m.halt = false) (h0 : g (ix m.pc) = 68) : Both m g := by
  obtain ⟨r0, r1, r2, r3, r4, r5, r7, sp, pc⟩ := id hm
  exact joinA (m' := (z44_0 m)) hm hh h0 (p44_0 m g _ _) (r44_0 m g) hg
@[simp] def z45_0 (m : Mc) : Mc := { m with pc := w16 (m.pc + 1), r0 := m.r5 }
theorem p45_0 : endsAt [0, 1] (Ly.run ctx3 3000 [] (sP m g 69 b1 b2)) = some (T [], .int .i64 0, 5, hPm (z45_0 m) (memL g)) := by kernel_rfl
theorem r45_0 : endsAt [0, 1, 2] (Ly.run ctx3 3000 [(4, true)] (sR m g 69)) = some (T [inw m.pc && true], .int .i64 0, 3, hRm (z45_0 m) (memL g)) := by kernel_rfl
theorem o45 (hm : m.Ok) (hg : ∀ e, B8 (g e)) (hh : m.halt = false) (h0 : g (ix m.pc) = 69) : Both m g := by
  obtain ⟨r0, r1, r2, r3, r4, r5, r7, sp, pc⟩ := id hm
  exact joinA (m' := (z45_0 m)) hm hh h0 (p45_0 m g _ _) (r45_0 m g) hg
@[simp] def z46_0 (m : Mc) (g : Nat → Int) : Mc := { m with pc := w16 (m.pc + 1), r0 := g (ix (or16 (w16 (w16 m.r4 * 256)) (w16 m.r5))) }
theorem p46_0 : endsAt [0, 1] (Ly.run ctx3 3000 [(28, true), (0, true)] (sP m g 70 b1 b2)) = some (T [(true && lt16 (or16 (w16 (w16 m.r4 * 256)) (w16 m.r5))), bl (ix (or16 (w16 (w16 m.r4 * 256)) (w16 m.r5)))], .int .i64 0, 5, hPm (z46_0 m g) (memL g)) := by kernel_rfl
theorem r46_0 : endsAt [0, 1, 2] (Ly.run ctx3 3000 [(4, true), (11, true), (0, true), (0, true)] (sR m g 70)) = some (T [inw m.pc && true, inb m.r4 && inb m.r5, rg (256 * m.r4 + m.r5), bl (ix (256 * m.r4 + m.r5))], .int .i64 0, 3, hRm { m with pc := w16 (m.pc + 1), r0 := g (ix (256 * m.r4 + m.r5)) } (memL g)) := by kernel_rfl
theorem o46 (hm : m.Ok) (hg : ∀ e, B8 (g e)) (hh : m.halt = false) (h0 : g (ix m.pc) = 70) : Both m g := by
  obtain ⟨r0, r1, r2, r3, r4, r5, r7, sp, pc⟩ := id hm
  exact joinA (m' := (z46_0 m g)) hm hh h0 (p46_0 m g _ _) (r46_0 m g) hg
@[simp] def z47_0 (m : Mc) : Mc := { m with pc := w16 (m.pc + 1), r0 := m.r7 }
theorem p47_0 : endsAt [0, 1] (Ly.run ctx3 3000 [] (sP m g 71 b1 b2)) = some (T [], .int .i64 0, 5, hPm (z47_0 m) (memL g)) := by kernel_rfl
theorem r47_0 : endsAt [0, 1, 2] (Ly.run ctx3 3000 [(4, true)] (sR m g 71)) = some (T [inw m.pc && true], .int .i64 0, 3, hRm (z47_0 m) (memL g)) := by kernel_rfl
theorem o47 (hm : m.Ok) (hg : ∀ e, B8 (g e)) (hh : m.halt = false) (h0 : g (ix m.pc) = 71) : Both m g := by
  obtain ⟨r0, r1, r2, r3, r4, r5, r7, sp, pc⟩ := id hm
  exact joinA (m' := (z47_0 m)) hm hh h0 (p47_0 m g _ _) (r47_0 m g) hg
@[simp] def z48_0 (m : Mc) : Mc := { m with pc := w16 (m.pc + 1), r1 := m.r0 }
theorem p48_0 : endsAt [0, 1] (Ly.run ctx3 3000 [] (sP m g 72 b1 b2)) = some (T [], .int .i64 0, 5, hPm (z48_0 m) (memL g)) := by kernel_rfl
theorem r48_0 : endsAt [0, 1, 2] (Ly.run ctx3 3000 [(4, true)] (sR m g 72)) = some (T [inw m.pc && true], .int .i64 0, 3, hRm (z48_0 m) (memL g)) := by kernel_rfl
theorem o48 (hm : m.Ok) (hg : ∀ e, B8 (g e)) (hh : m.halt = false) (h0 : g (ix m.pc) = 72) : Both m g := by
  obtain ⟨r0, r1, r2, r3, r4, r5, r7, sp, pc⟩ := id hm
  exact joinA (m' := (z48_0 m)) hm hh h0 (p48_0 m g _ _) (r48_0 m g) hg
theorem p49_0 : endsAt [0, 1] (Ly.run ctx3 3000 [] (sP m g 73 b1 b2)) = some (T [], .int .i64 0, 5, hPm { m with pc := w16 (m.pc + 1) } (memL g)) := by kernel_rfl
theorem r49_0 : endsAt [0, 1, 2] (Ly.run ctx3 3000 [(4, true)] (sR m g 73)) = some (T [inw m.pc && true], .int .i64 0, 3, hRm { m with pc := w16 (m.pc + 1) } (memL g)) := by kernel_rfl
theorem o49 (hm : m.Ok) (hg : ∀ e, B8 (g e)) (hh : m.halt = false) (h0 : g (ix m.pc) = 73) : Both m g := by
  obtain ⟨r0, r1, r2, r3, r4, r5, r7, sp, pc⟩ := id hm
  exact joinA (m' := { m with pc := w16 (m.pc + 1) }) hm hh h0 (p49_0 m g _ _) (r49_0 m g) hg
@[simp] def z4a_0 (m : Mc) : Mc := { m with pc := w16 (m.pc + 1), r1 := m.r2 }
theorem p4a_0 : endsAt [0, 1] (Ly.run ctx3 3000 [] (sP m g 74 b1 b2)) = some (T [], .int .i64 0, 5, hPm (z4a_0 m) (memL g)) := by kernel_rfl
theorem r4a_0 : endsAt [0, 1, 2] (Ly.run ctx3 3000 [(4, true)] (sR m g 74)) = some (T [inw m.pc && true], .int .i64 0, 3, hRm (z4a_0 m) (memL g)) := by kernel_rfl
theorem o4a (hm : m.Ok) (hg : ∀ e, B8 (g e)) (hh : m.halt = false) (h0 : g (ix m.pc) = 74) : Both m g := by
  obtain ⟨r0, r1, r2, r3, r4, r5, r7, sp, pc⟩ := id hm
  exact joinA (m' := (z4a_0 m)) hm hh h0 (p4a_0 m g _ _) (r4a_0 m g) hg
@[simp] def z4b_0 (m : Mc) : Mc := { m with pc := w16 (m.pc + 1), r1 := m.r3 }
theorem p4b_0 : endsAt [0, 1] (Ly.run ctx3 3000 [] (sP m g 75 b1 b2)) = some (T [], .int .i64 0, 5, hPm (z4b_0 m) (memL g)) := by kernel_rfl
theorem r4b_0 : endsAt [0, 1, 2] (Ly.run ctx3 3000 [(4, true)] (sR m g 75)) = some (T [inw m.pc && true], .int .i64 0, 3, hRm (z4b_0 m) (memL g)) := by kernel_rfl
theorem o4b (hm : m.Ok) (hg : ∀ e, B8 (g e)) (hh : m.halt = false) (h0 : g (ix m.pc) = 75) : Both m g := by
  obtain ⟨r0, r1, r2, r3, r4, r5, r7, sp, pc⟩ := id hm
  exact joinA (m' := (z4b_0 m)) hm hh h0 (p4b_0 m g _ _) (r4b_0 m g) hg
@[simp] def z4c_0 (m : Mc) : Mc := { m with pc := w16 (m.pc + 1), r1 := m.r4 }
theorem p4c_0 : endsAt [0, 1] (Ly.run ctx3 3000 [] (sP m g 76 b1 b2)) = some (T [], .int .i64 0, 5, hPm (z4c_0 m) (memL g)) := by kernel_rfl
theorem r4c_0 : endsAt [0, 1, 2] (Ly.run ctx3 3000 [(4, true)] (sR m g 76)) = some (T [inw m.pc && true], .int .i64 0, 3, hRm (z4c_0 m) (memL g)) := by kernel_rfl
theorem o4c (hm : m.Ok) (hg : ∀ e, B8 (g e)) (hh : m.halt = false) (h0 : g (ix m.pc) = 76) : Both m g := by
  obtain ⟨r0, r1, r2, r3, r4, r5, r7, sp, pc⟩ := id hm
  exact joinA (m' := (z4c_0 m)) hm hh h0 (p4c_0 m g _ _) (r4c_0 m g) hg
@[simp] def z4d_0 (m : Mc) : Mc := { m with pc := w16 (m.pc + 1), r1 := m.r5 }
theorem p4d_0 : endsAt [0, 1] (Ly.run ctx3 3000 [] (sP m g 77 b1 b2)) = some (T [], .int .i64 0, 5, hPm (z4d_0 m) (memL g)) := by kernel_rfl
theorem r4d_0 : endsAt [0, 1, 2] (Ly.run ctx3 3000 [(4, true)] (sR m g 77)) = some (T [inw m.pc && true], .int .i64 0, 3, hRm (z4d_0 m) (memL g)) := by kernel_rfl
theorem o4d (hm : m.Ok) (hg : ∀ e, B8 (g e)) (hh : m.halt = false) (h0 : g (ix m.pc) = 77) : Both m g := by
  obtain ⟨r0, r1, r2, r3, r4, r5, r7, sp, pc⟩ := id hm
  exact joinA (m' := (z4d_0 m)) hm hh h0 (p4d_0 m g _ _) (r4d_0 m g) hg
@[simp] def z4e_0 (m : Mc) (g : Nat → Int) : Mc := { m with pc := w16 (m.pc + 1), r1 := g (ix (or16 (w16 (w16 m.r4 * 256)) (w16 m.r5))) }
theorem p4e_0 : endsAt [0, 1] (Ly.run ctx3 3000 [(28, true), (0, true)] (sP m g 78 b1 b2)) = some (T [(true && lt16 (or16 (w16 (w16 m.r4 * 256)) (w16 m.r5))), bl (ix (or16 (w16 (w16 m.r4 * 256)) (w16 m.r5)))], .int .i64 0, 5, hPm (z4e_0 m g) (memL g)) := by kernel_rfl
theorem r4e_0 : endsAt [0, 1, 2] (Ly.run ctx3 3000 [(4, true), (11, true), (0, true), (0, true)] (sR m g 78)) = some (T [inw m.pc && true, inb m.r4 && inb m.r5, rg (256 * m.r4 + m.r5), bl (ix (256 * m.r4 + m.r5))], .int .i64 0, 3, hRm { m with pc := w16 (m.pc + 1), r1 := g (ix (256 * m.r4 + m.r5)) } (memL g)) := by kernel_rfl
theorem o4e (hm : m.Ok) (hg : ∀ e, B8 (g e)) (hh : m.halt = false) (h0 : g (ix m.pc) = 78) : Both m g := by
  obtain ⟨r0, r1, r2, r3, r4, r5, r7, sp, pc⟩ := id hm
  exact joinA (m' := (z4e_0 m g)) hm hh h0 (p4e_0 m g _ _) (r4e_0 m g) hg
@[simp] def z4f_0 (m : Mc) : Mc := { m with pc := w16 (m.pc + 1), r1 := m.r7 }
theorem p4f_0 : endsAt [0, 1] (Ly.run ctx3 3000 [] (sP m g 79 b1 b2)) = some (T [], .int .i64 0, 5, hPm (z4f_0 m) (memL g)) := by kernel_rfl
theorem r4f_0 : endsAt [0, 1, 2] (Ly.run ctx3 3000 [(4, true)] (sR m g 79)) = some (T [inw m.pc && true], .int .i64 0, 3, hRm (z4f_0 m) (memL g)) := by kernel_rfl
theorem o4f (hm : m.Ok) (hg : ∀ e, B8 (g e)) (hh : m.halt = false) (h0 : g (ix m.pc) = 79) : Both m g := by
  obtain ⟨r0, r1, r2, r3, r4, r5, r7, sp, pc⟩ := id hm
  exact joinA (m' := (z4f_0 m)) hm hh h0 (p4f_0 m g _ _) (r4f_0 m g) hg
theorem blk4 (m : Mc) (g : Nat → Int) (hm : m.Ok) (hg : ∀ e, B8 (g e)) (hh : m.halt = false) (h1 : 64 ≤ g (ix m.pc)) (h2 : g (ix m.pc) < 80) : Both m g := by
  have h : g (ix m.pc) = 64 ∨ g (ix m.pc) = 65 ∨ g (ix m.pc) = 66 ∨ g (ix m.pc) = 67 ∨ g (ix m.pc) = 68 ∨ g (ix m.pc) = 69 ∨ g (ix m.pc) = 70 ∨ g (ix m.pc) = 71 ∨ g (ix m.pc) = 72 ∨ g (ix m.pc) = 73 ∨ g (ix m.pc) = 74 ∨ g (ix m.pc) = 75 ∨ g (ix m.pc) = 76 ∨ g (ix m.pc) = 77 ∨ g (ix m.pc) = 78 ∨ g (ix m.pc) = 79 := by omega
  rcases h with h | h | h | h | h | h | h | h | h | h | h | h | h | h | h | h
  · exact o40 m g hm hg hh h
  · exact o41 m g hm hg hh h
  · exact o42 m g hm hg hh h
  · exact o43 m g hm hg hh h
  · exact o44 m g hm hg hh h
  · exact o45 m g hm hg hh h
  · exact o46 m g hm hg hh h
  · exact o47 m g hm hg hh h
  · exact o48 m g hm hg hh h
  · exact o49 m g hm hg hh h
  · exact o4a m g hm hg hh h
  · exact o4b m g hm hg hh h
  · exact o4c m g hm hg hh h
  · exact o4d m g hm hg hh h
  · exact o4e m g hm hg hh h
  · exact o4f m g hm hg hh h
end Go.Proofs.Ytpggoincnebfnaa
namespace Go.Proofs.Ytpggoincnebfnaa
open Go Go.Ly Go.RowKit
variable (m : Mc) (g : Nat → Int) (b1 b2 : Int)
@[simp] def z50_0 (m : Mc) : Mc := { m with pc := w16 (m.pc + 1), r2 := m.r0 }
theorem p50_0 : endsAt [0, 1] (Ly.run ctx3 3000 [] (sP m g 80 b1 b2)) = some (T [], .int .i64 0, 5, hPm (z50_0 m) (memL g)) := by kernel_rfl
theorem r50_0 : endsAt [0, 1, 2] (Ly.run ctx3 3000 [(4, true)] (sR m g 80)) = some (T [inw m.pc && true], .int .i64 0, 3, hRm (z50_0 m) (memL g)) := by kernel_rfl
theorem o50 (hm : m.Ok) (hg : ∀ e, B8 (g e)) (hh : m.halt = false) (h0 : g (ix m.pc) = 80) : Both m g := by
  obtain ⟨r0, r1, r2, r3, r4, r5, r7, sp, pc⟩ := id hm
  exact joinA (m' := (z50_0 m)) hm hh h0 (p50_0 m g _ _) (r50_0 m g) hg
@[simp] def z51_0 (m : Mc) : Mc := { m with pc := w16 (m.pc + 1), r2 := m.r1 }
theorem p51_0 : endsAt [0, 1] (Ly.run ctx3 3000 [] (sP m g 81 b1 b2)) = some (T [], .int .i64 0, 5, hPm (z51_0 m) (memL g)) := by kernel_rfl
theorem r51_0 : endsAt [0, 1, 2] (Ly.run ctx3 3000 [(4, true)] (sR m g 81)) = some (T [inw m.pc && true], .int .i64 0, 3, hRm (z51_0 m) (memL g)) := by kernel_rfl
theorem o51 (hm : m.Ok) (hg : ∀ e, B8 (g e)) (hh : m.halt = false) (h0 : g (ix m.pc) = 81) : Both m g := by
  obtain ⟨r0, r1, r2, r3, r4, r5, r7, sp, pc⟩ := id hm
  exact joinA (m' := (z51_0 m)) hm hh h0 (p51_0 m g _ _) (r51_0 m g) hg
theorem p52_0 : endsAt [0, 1] (Ly.run ctx3 3000 [] (sP m g 82 b1 b2)) = some (T [], .int .i64 0, 5, hPm { m with pc := w16 (m.pc + 1) } (memL g)) := by kernel_rfl
theorem r52_0 : endsAt [0, 1, 2] (Ly.run ctx3 3000 [(4, true)] (sR m g 82)) = some (T [inw m.pc && true], .int .i64 0, 3, hRm { m with pc := w16 (m.pc + 1) } (memL g)) := by kernel_rfl
theorem o52 (hm : m.Ok) (hg : ∀ e, B8 (g e)) (hh : m.halt = false) (h0 : g (ix m.pc) = 82) : Both m g := by
  obtain ⟨r0, r1, r2, r3, r4, r5, r7, sp, pc⟩ := id hm
  exact joinA (m' := { m with pc := w16 (m.pc + 1) }) hm hh h0 (p52_0 m g _ _) (r52_0 m g) hg
@[simp] def z53_0 (m : Mc) : Mc := { m with pc := w16 (m.pc + 1), r2 := m.r3 }
theorem p53_0 : endsAt [0, 1] (Ly.run ctx3 3000 [] (sP m g 83 b1 b2)) = some (T [], .int .i64 0, 5, hPm (z53_0 m) (memL g)) := by kernel_rfl
theorem r53_0 : endsAt [0, 1, 2] (Ly.run ctx3 3000 [(4, true)] (sR m g 83)) = some (T [inw m.pc && true], .int .i64 0, 3, hRm (z53_0 m) (memL g)) := by kernel_rfl
theorem o53 (hm : m.Ok) (hg : ∀ e, B8 (g e)) (hh : m.halt = false) (h0 : g (ix m.pc) = 83) : Both m g := by
  obtain ⟨r0, r1, r2, r3, r4, r5, r7, sp, pc⟩ := id hm
  exact joinA (m' := (z53_0 m)) hm hh h0 (p53_0 m g _ _) (r53_0 m g) hg
@[simp] def z54_0 (m : Mc) : Mc := { m with pc := w16 (m.pc + 1), r2 := m.r4 }
theorem p54_0 : endsAt [0, 1] (Ly.run ctx3 3000 [] (sP m g 84 b1 b2)) = some (T [], .int .i64 0, 5, hPm (z54_0 m) (memL g)) := by kernel_rfl
theorem r54_0 : endsAt [0, 1, 2] (Ly.run ctx3 3000 [(4, true)] (sR m g 84)) = some (T [inw m.pc && true], .int .i64 0, 3, hRm (z54_0 m) (memL g)) := by kernel_rfl
theorem o54 (hm : m.Ok) (hg : ∀ e, B8 (g e)) (hh : m.halt = false) (h0 : g (ix m.pc) = 84) : Both m g := by
  obtain ⟨r0, r1, r2, r3, r4, r5, r7, sp, pc⟩ := id hm
  exact joinA (m' := (z54_0 m)) hm hh h0 (p54_0 m g _ _) (r54_0 m g) hg
@[simp] def z55_0 (m : Mc) : Mc := { m with pc := w16 (m.pc + 1), r2 := m.r5 }
theorem p55_0 : endsAt [0, 1] (Ly.run ctx3 3000 [] (sP m g 85 b1 b2)) = some (T [], .int .i64 0, 5, hPm (z55_0 m) (memL g)) := by kernel_rfl
theorem r55_0 : endsAt [0, 1, 2] (Ly.run ctx3 3000 [(4, true)] (sR m g 85)) = some (T [inw m.pc && true], .int .i64 0, 3, hRm (z55_0 m) (memL g)) := by kernel_rfl
theorem o55 (hm : m.Ok) (hg : ∀ e, B8 (g e)) (hh : m.halt = false) (h0 : g (ix m.pc) = 85) : Both m g := by
  obtain ⟨r0, r1, r2, r3, r4, r5, r7, sp, pc⟩ := id hm
  exact joinA (m' := (z55_0 m)) hm hh h0 (p55_0 m g _ _) (r55_0 m g) hg
@[simp] def z56_0 (m : Mc) (g : Nat → Int) : Mc := { m with pc := w16 (m.pc + 1), r2 := g (ix (or16 (w16 (w16 m.r4 * 256)) (w16 m.r5))) }
theorem p56_0 : endsAt [0, 1] (Ly.run ctx3 3000 [(28, true), (0, true)] (sP m g 86 b1 b2)) = some (T [(true && lt16 (or16 (w16 (w16 m.r4 * 256)) (w16 m.r5))), bl (ix (or16 (w16 (w16 m.r4 * 256)) (w16 m.r5)))], .int .i64 0, 5, hPm (z56_0 m g) (memL g)) := by kernel_rfl
theorem r56_0 : endsAt [0, 1, 2] (Ly.run ctx3 3000 [(4, true), (11, true), (0, true), (0, true)] (sR m g 86)) = some (T [inw m.pc && true, inb m.r4 && inb m.r5, rg (256 * m.r4 + m.r5), bl (ix (256 * m.r4 + m.r5))], .int .i64 0, 3, hRm { m with pc := w16 (m.pc + 1), r2 := g (ix (256 * m.r4 + m.r5)) } (memL g)) := by kernel_rfl
theorem o56 (hm : m.Ok) (hg : ∀ e, B8 (g e)) (hh : m.halt = false) (h0 : g (ix m.pc) = 86) : Both m g := by
  obtain ⟨r0, r1, r2, r3, r4, r5, r7, sp, pc⟩ := id hm
  exact joinA (m' := (z56_0 m g)) hm hh h0 (p56_0 m g _ _) (r56_0 m g) hg
@[simp] def z57_0 (m : Mc) : Mc := { m with pc := w16 (m.pc + 1), r2 := m.r7 }
theorem p57_0 : endsAt [0, 1] (Ly.run ctx3 3000 [] (sP m g 87 b1 b2)) = some (T [], .int .i64 0, 5, hPm (z57_0 m) (memL g)) := by kernel_rfl
theorem r57_0 : endsAt [0, 1, 2] (Ly.run ctx3 3000 [(4, true)] (sR m g 87)) = some (T [inw m.pc && true], .int .i64 0, 3, hRm (z57_0 m) (memL g)) := by kernel_rfl
theorem o57 (hm : m.Ok) (hg : ∀ e, B8 (g e)) (hh : m.halt = false) (h0 : g (ix m.pc) = 87) : Both m g := by
  obtain ⟨r0, r1, r2, r3, r4, r5, r7, sp, pc⟩ := id hm
  exact joinA (m' := (z57_0 m)) hm hh h0 (p57_0 m g _ _) (r57_0 m g) hg
@[simp] def z58_0 (m : Mc) : Mc := { m with pc := w16 (m.pc + 1), r3 := m.r0 }
theorem p58_0 : endsAt [0, 1] (Ly.run ctx3 3000 [] (sP m g 88 b1 b2)) = some (T [], .int .i64 0, 5, hPm (z58_0 m) (memL g)) := by kernel_rfl
theorem r58_0 : endsAt [0, 1, 2] (Ly.run ctx3 3000 [(4, true)] (sR m g 88)) = some (T [inw m.pc && true], .int .i64 0, 3, hRm (z58_0 m) (memL g)) := by kernel_rfl
theorem o58 (hm : m.Ok) (hg : ∀ e, B8 (g e)) (hh : m.halt = false) (h0 : g (ix m.pc) = 88) : Both m g := by
  obtain ⟨r0, r1, r2, r3, r4, r5, r7, sp, pc⟩ := id hm
  exact joinA (m' := (z58_0 m)) hm hh h0 (p58_0 m g _ _) (r58_0 m g) hg
@[simp] def z59_0 (m : Mc) : Mc := { m with pc := w16 (m.pc + 1), r3 := m.r1 }
theorem p59_0 : endsAt [0, 1] (Ly.run ctx3 3000 [] (sP m g 89 b1 b2)) = some (T [], .int .i64 0, 5, hPm (z59_0 m) (memL g)) := by kernel_rfl
theorem r59_0 : endsAt [0, 1, 2] (Ly.run ctx3 3000 [(4, true)] (sR m g 89)) = some (T [inw m.pc && true], .int .i64 0, 3, hRm (z59_0 m) (memL g)) := by kernel_rfl
theorem o59 (hm : m.Ok) (hg : ∀ e, B8 (g e)) (hh : m.halt = false) (h0 : g (ix m.pc) = 89) : Both m g := by
  obtain ⟨r0, r1, r2, r3, r4, r5, r7, sp, pc⟩ := id hm
  exact joinA (m' := (z59_0 m)) hm hh h0 (p59_0 m g _ _) (r59_0 m g) hg
@[simp] def z5a_0 (m : Mc) : Mc := { m with pc := w16 (m.pc + 1), r3 := m.r2 }
theorem p5a_0 : endsAt [0, 1] (Ly.run ctx3 3000 [] (sP m g 90 b1 b2)) = some (T [], .int .i64 0, 5, hPm (z5a_0 m) (memL g)) := by kernel_rfl
theorem r5a_0 : endsAt [0, 1, 2] (Ly.run ctx3 3000 [(4, true)] (sR m g 90)) = some (T [inw m.pc && true], .int .i64 0, 3, hRm (z5a_0 m) (memL g)) := by kernel_rfl
theorem o5a (hm : m.Ok) (hg : ∀ e, B8 (g e)) (hh : m.halt = false) (h0 : g (ix m.pc) = 90) : Both m g := by
  obtain ⟨r0, r1, r2, r3, r4, r5, r7, sp, pc⟩ := id hm
  exact joinA (m' := (z5a_0 m)) hm hh h0 (p5a_0 m g _ _) (r5a_0 m g) hg
theorem p5b_0 : endsAt [0, 1] (Ly.run ctx3 3000 [] (sP m g 91 b1 b2)) = some (T [], .int .i64 0, 5, hPm { m with pc := w16 (m.pc + 1) } (memL g)) := by kernel_rfl
theorem r5b_0 : endsAt [0, 1, 2] (Ly.run ctx3 3000 [(4, true)] (sR m g 91)) = some (T [inw m.pc && true], .int .i64 0, 3, hRm { m with pc := w16 (m.pc + 1) } (memL g)) := by kernel_rfl
theorem o5b (hm : m.Ok) (hg : ∀ e, B8 (g e)) (hh : m.halt = false) (h0 : g (ix m.pc) = 91) : Both m g := by
  obtain ⟨r0, r1, r2, r3, r4, r5, r7, sp, pc⟩ := id hm
  exact joinA (m' := { m with pc := w16 (m.pc + 1) }) hm hh h0 (p5b_0 m g _ _) (r5b_0 m g) hg
@[simp] def z5c_0 (m : Mc) : Mc := { m with pc := w16 (m.pc + 1), r3 := m.r4 }
theorem p5c_0 : endsAt [0, 1] (Ly.run ctx3 3000 [] (sP m g 92 b1 b2)) = some (T [], .int .i64 0, 5, hPm (z5c_0 m) (memL g)) := by kernel_rfl
theorem r5c_0 : endsAt [0, 1, 2] (Ly.run ctx3 3000 [(4, true)] (sR m g 92)) = some (T [inw m.pc && true], .int .i64 0, 3, hRm (z5c_0 m) (memL g)) := by kernel_rfl
theorem o5c (hm : m.Ok) (hg : ∀ e, B8 (g e)) (hh : m.halt = false) (h0 : g (ix m.pc) = 92) : Both m g := by
  obtain ⟨r0, r1, r2, r3, r4, r5, r7, sp, pc⟩ := id hm
  exact joinA (m' := (z5c_0 m)) hm hh h0 (p5c_0 m g _ _) (r5c_0 m g) hg
@[simp] def z5d_0 (m : Mc) : Mc := { m with pc := w16 (m.pc + 1), r3 := m.r5 }
theorem p5d_0 : endsAt [0, 1] (Ly.run ctx3 3000 [] (sP m g 93 b1 b2)) = some (T [], .int .i64 0, 5, hPm (z5d_0 m) (memL g)) := by kernel_rfl
theorem r5d_0 : endsAt [0, 1, 2] (Ly.run ctx3 3000 [(4, true)] (sR m g 93)) = some (T [inw m.pc && true], .int .i64 0, 3, hRm (z5d_0 m) (memL g)) := by kernel_rfl
theorem o5d (hm : m.Ok) (hg : ∀ e, B8 (g e)) (hh : m.halt = false) (h0 : g (ix m.pc) = 93) : Both m g := by
  obtain ⟨r0, r1, r2, r3, r4, r5, r7, sp, pc⟩ := id hm
  exact joinA (m' := (z5d_0 m)) hm hh h0 (p5d_0 m g _ _) (r5d_0 m g) hg
@[simp] def z5e_0 (m : Mc) (g : Nat → Int) : Mc := { m with pc := w16 (m.pc + 1), r3 := g (ix (or16 (w16 (w16 m.r4 * 256)) (w16 m.r5))) }
theorem p5e_0 : endsAt [0, 1] (Ly.run ctx3 3000 [(28, true), (0, true)] (sP m g 94 b1 b2)) = some (T [(true && lt16 (or16 (w16 (w16 m.r4 * 256)) (w16 m.r5))), bl (ix (or16 (w16 (w16 m.r4 * 256)) (w16 m.r5)))], .int .i64 0, 5, hPm (z5e_0 m g) (memL g)) := by kernel_rfl
theorem r5e_0 : endsAt [0, 1, 2] (Ly.run ctx3 3000 [(4, true), (11, true), (0, true), (0, true)] (sR m g 94)) = some (T [inw m.pc && true, inb m.r4 && inb m.r5, rg (256 * m.r4 + m.r5), bl (ix (256 * m.r4 + m.r5))], .int .i64 0, 3, hRm { m with pc := w16 (m.pc + 1), r3 := g (ix (256 * m.r4 + m.r5)) } (memL g)) := by kernel_rfl
theorem o5e (hm : m.Ok) (hg : ∀ e, B8 (g e)) (hh : m.halt = false) (h0 : g (ix m.pc) = 94) : Both m g := by
  obtain ⟨r0, r1, r2, r3, r4, r5, r7, sp, pc⟩ := id hm
  exact joinA (m' := (z5e_0 m g)) hm hh h0 (p5e_0 m g _ _) (r5e_0 m g) hg
@[simp] def z5f_0 (m : Mc) : Mc := { m with pc := w16 (m.pc + 1), r3 := m.r7 }
theorem p5f_0 : endsAt [0, 1] (Ly.run ctx3 3000 [] (sP m g 95 b1 b2)) = some (T [], .int .i64 0, 5, hPm (z5f_0 m) (memL g)) := by kernel_rfl
theorem r5f_0 : endsAt [0, 1, 2] (Ly.run ctx3 3000 [(4, true)] (sR m g 95)) = some (T [inw m.pc && true], .int .i64 0, 3, hRm (z5f_0 m) (memL g)) := by kernel_rfl
theorem o5f (hm : m.Ok) (hg : ∀ e, B8 (g e)) (hh : m.halt = false) (h0 : g (ix m.pc) = 95) : Both m g := by
  obtain ⟨r0, r1, r2, r3, r4, r5, r7, sp, pc⟩ := id hm
  exact joinA (m' := (z5f_0 m)) hm hh h0 (p5f_0 m g _ _) (r5f_0 m g) hg
theorem blk5 (m : Mc) (g : Nat → Int) (hm : m.Ok) (hg : ∀ e, B8 (g e)) (hh : m.halt = false) (h1 : 80 ≤ g (ix m.pc)) (h2 : g (ix m.pc) < 96) : Both m g := by
  have h : g (ix m.pc) = 80 ∨ g (ix m.pc) = 81 ∨ g (ix m.pc) = 82 ∨ g (ix m.pc) = 83 ∨ g (ix m.pc) = 84 ∨ g (ix m.pc) = 85 ∨ g (ix m.pc) = 86 ∨ g (ix m.pc) = 87 ∨ g (ix m.pc) = 88 ∨ g (ix m.pc) = 89 ∨ g (ix m.pc) = 90 ∨ g (ix m.pc) = 91 ∨ g (ix m.pc) = 92 ∨ g (ix m.pc) = 93 ∨ g (ix m.pc) = 94 ∨ g (ix m.pc) = 95 := by omega
  rcases h with h | h | h | h | h | h | h | h | h | h | h | h | h | h | h | h
  · exact o50 m g hm hg hh h
  · exact o51 m g hm hg hh h
  · exact o52 m g hm hg hh h
  · exact o53 m g hm hg hh h
  · exact o54 m g hm hg hh h
  · exact o55 m g hm hg hh h
  · exact o56 m g hm hg hh h
  · exact o57 m g hm hg hh h
  · exact o58 m g hm hg hh h
  · exact o59 m g hm hg hh h
  · exact o5a m g hm hg hh h
  · exact o5b m g hm hg hh h
  · exact o5c m g hm hg hh h
  · exact o5d m g hm hg hh h
  · exact o5e m g hm hg hh h
  · exact o5f m g hm hg hh h
end Go.Proofs.Ytpggoincnebfnaa
namespace Go.Proofs.Ytpggoincnebfnaa
open Go Go.Ly Go.RowKit
variable (m : Mc) (g : Nat → Int) (b1 b2 : Int)
@[simp] def z60_0 (m : Mc) : Mc := { m with pc := w16 (m.pc + 1), r4 := m.r0 }
theorem p60_0 : endsAt [0, 1] (Ly.run ctx3 3000 [] (sP m g 96 b1 b2)) = some (T [], .int .i64 0, 5, hPm (z60_0 m) (memL g)) := by kernel_rfl
theorem r60_0 : endsAt [0, 1, 2] (Ly.run ctx3 3000 [(4, true)] (sR m g 96)) = some (T [inw m.pc && true], .int .i64 0, 3, hRm (z60_0 m) (memL g)) := by kernel_rfl
theorem o60 (hm : m.Ok) (hg : ∀ e, B8 (g e)) (hh : m.halt = false) (h0 : g (ix m.pc) = 96) : Both m g := by
  obtain ⟨r0, r1, r2, r3, r4, r5, r7, sp, pc⟩ := id hm
  exact joinA (m' := (z60_0 m)) hm hh h0 (p60_0 m g _ _) (r60_0 m g) hg
@[simp] def z61_0 (m : Mc) : Mc := { m with pc := w16 (m.pc + 1), r4 := m.r1 }
theorem p61_0 : endsAt [0, 1] (Ly.run ctx3 3000 [] (sP m g 97 b1 b2)) = some (T [], .int .i64 0, 5, hPm (z61_0 m) (memL g)) := by kernel_rfl
theorem r61_0 : endsAt [0, 1, 2] (Ly.run ctx3 3000 [(4, true)] (sR m g 97)) = some (T [inw m.pc && true], .int .i64 0, 3, hRm (z61_0 m) (memL g)) := by kernel_rfl
theorem o61 (hm : m.Ok) (hg : ∀ e, B8 (g e)) (hh : m.halt = false) (h0 : g (ix m.pc) = 97) : Both m g := by
  obtain ⟨r0, r1, r2, r3, r4, r5, r7, sp, pc⟩ := id hm
  exact joinA (m' := (z61_0 m)) hm hh h0 (p61_0 m g _ _) (r61_0 m g) hg
@[simp] def z62_0 (m : Mc) : Mc := { m with pc := w16 (m.pc + 1), r4 := m.r2 }
theorem p62_0 : endsAt [0, 1] (Ly.run ctx3 3000 [] (sP m g 98 b1 b2)) = some (T [], .int .i64 0, 5, hPm (z62_0 m) (memL g)) := by kernel_rfl
theorem r62_0 : endsAt [0, 1, 2] (Ly.run ctx3 3000 [(4, true)] (sR m g 98)) = some (T [inw m.pc && true], .int .i64 0, 3, hRm (z62_0 m) (memL g)) := by kernel_rfl
theorem o62 (hm : m.Ok) (hg : ∀ e, B8 (g e)) (hh : m.halt = false) (h0 : g (ix m.pc) = 98) : Both m g := by
  obtain ⟨r0, r1, r2, r3, r4, r5, r7, sp, pc⟩ := id hm
  exact joinA (m' := (z62_0 m)) hm hh h0 (p62_0 m g _ _) (r62_0 m g) hg
@[simp] def z63_0 (m : Mc) : Mc := { m with pc := w16 (m.pc + 1), r4 := m.r3 }
theorem p63_0 : endsAt [0, 1] (Ly.run ctx3 3000 [] (sP m g 99 b1 b2)) = some (T [], .int .i64 0, 5, hPm (z63_0 m) (memL g)) := by kernel_rfl
theorem r63_0 : endsAt [0, 1, 2] (Ly.run ctx3 3000 [(4, true)] (sR m g 99)) = some (T [inw m.pc && true], .int .i64 0, 3, hRm (z63_0 m) (memL g)) := by kernel_rfl
theorem o63 (hm : m.Ok) (hg : ∀ e, B8 (g e)) (hh : m.halt = false) (h0 : g (ix m.pc) = 99) : Both m g := by
  obtain ⟨r0, r1, r2, r3, r4, r5, r7, sp, pc⟩ := id hm
  exact joinA (m' := (z63_0 m)) hm hh h0 (p63_0 m g _ _) (r63_0 m g) hg
theorem p64_0 : endsAt [0, 1] (Ly.run ctx3 3000 [] (sP m g 100 b1 b2)) = some (T [], .int .i64 0, 5, hPm { m with pc := w16 (m.pc + 1) } (memL g)) := by kernel_rfl
theorem r64_0 : endsAt [0, 1, 2] (Ly.run ctx3 3000 [(4, true)] (sR m g 100)) = some (T [inw m.pc && true], .int .i64 0, 3, hRm { m with pc := w16 (m.pc + 1) } (memL g)) := by kernel_rfl
theorem o64 (hm : m.Ok) (hg : ∀ e, B8 (g e)) (hh : m.halt = false) (h0 : g (ix m.pc) = 100) : Both m g := by
  obtain ⟨r0, r1, r2, r3, r4, r5, r7, sp, pc⟩ := id hm
  exact joinA (m' := { m with pc := w16 (m.pc + 1) }) hm hh h0 (p64_0 m g _ _) (r64_0 m g) hg
@[simp] def z65_0 (m : Mc) : Mc := { m with pc := w16 (m.pc + 1), r4 := m.r5 }
theorem p65_0 : endsAt [0, 1] (Ly.run ctx3 3000 [] (sP m g 101 b1 b2)) = some (T [], .int .i64 0, 5, hPm (z65_0 m) (memL g)) := by kernel_rfl
theorem r65_0 : endsAt [0, 1, 2] (Ly.run ctx3 3000 [(4, true)] (sR m g 101)) = some (T [inw m.pc && true], .int .i64 0, 3, hRm (z65_0 m) (memL g)) := by kernel_rfl
theorem o65 (hm : m.Ok) (hg : ∀ e, B8 (g e)) (hh : m.halt = false) (h0 : g (ix m.pc) = 101) : Both m g := by
  obtain ⟨r0, r1, r2, r3, r4, r5, r7, sp, pc⟩ := id hm
  exact joinA (m' := (z65_0 m)) hm hh h0 (p65_0 m g _ _) (r65_0 m g) hg
@[simp] def z66_0 (m : Mc) (g : Nat → Int) : Mc := { m with pc := w16 (m.pc + 1), r4 := g (ix (or16 (w16 (w16 m.r4 * 256)) (w16 m.r5))) }
theorem p66_0 : endsAt [0, 1] (Ly.run ctx3 3000 [(28, true), (0, true)] (sP m g 102 b1 b2)) = some (T [(true && lt16 (or16 (w16 (w16 m.r4 * 256)) (w16 m.r5))), bl (ix (or16 (w16 (w16 m.r4 * 256)) (w16 m.r5)))], .int .i64 0, 5, hPm (z66_0 m g) (memL g)) := by kernel_rfl
theorem r66_0 : endsAt [0, 1, 2] (Ly.run ctx3 3000 [(4, true), (11, true), (0, true), (0, true)] (sR m g 102)) = some (T [inw m.pc && true, inb m.r4 && inb m.r5, rg (256 * m.r4 + m.r5), bl (ix (256 * m.r4 + m.r5))], .int .i64 0, 3, hRm { m with pc := w16 (m.pc + 1), r4 := g (ix (256 * m.r4 + m.r5)) } (memL g)) := by kernel_rfl
theorem o66 (hm : m.Ok) (hg : ∀ e, B8 (g e)) (hh : m.halt = false) (h0 : g (ix m.pc) = 102) : Both m g := by
  obtain ⟨r0, r1, r2, r3, r4, r5, r7, sp, pc⟩ := id hm
  exact joinA (m' := (z66_0 m g)) hm hh h0 (p66_0 m g _ _) (r66_0 m g) hg
@[simp] def z67_0 (m : Mc) : Mc := { m with pc := w16 (m.pc + 1), r4 := m.r7 }
theorem p67_0 : endsAt [0, 1] (Ly.run ctx3 3000 [] (sP m g 103 b1 b2)) = some (T [], .int .i64 0, 5, hPm (z67_0 m) (memL g)) := by kernel_rfl
theorem r67_0 : endsAt [0, 1, 2] (Ly.run ctx3 3000 [(4, true)] (sR m g 103)) = some (T [inw m.pc && true], .int .i64 0, 3, hRm (z67_0 m) (memL g)) := by kernel_rfl
theorem o67 (hm : m.Ok) (hg : ∀ e, B8 (g e)) (hh : m.halt = false) (h0 : g (ix m.pc) = 103) : Both m g := by
  obtain ⟨r0, r1, r2, r3, r4, r5, r7, sp, pc⟩ := id hm
  exact joinA (m' := (z67_0 m)) hm hh h0 (p67_0 m g _ _) (r67_0 m g) hg
@[simp] def z68_0 (m : Mc) : Mc := { m with pc := w16 (m.pc + 1), r5 := m.r0 }
theorem p68_0 : endsAt [0, 1] (Ly.run ctx3 3000 [] (sP m g 104 b1 b2)) = some (T [], .int .i64 0, 5, hPm (z68_0 m) (memL g)) := by kernel_rfl
theorem r68_0 : endsAt [0, 1, 2] (Ly.run ctx3 3000 [(4, true)] (sR m g 104)) = some (T [inw m.pc && true], .int .i64 0, 3, hRm (z68_0 m) (memL g)) := by kernel_rfl
theorem o68 (hm : m.Ok) (hg : ∀ e, B8 (g e)) (hh : m.halt = false) (h0 : g (ix m.pc) = 104) : Both m g := by
  obtain ⟨r0, r1, r2, r3, r4, r5, r7, sp, pc⟩ := id hm
  exact joinA (m' := (z68_0 m)) hm hh h0 (p68_0 m g _ _) (r68_0 m g) hg
@[simp] def z69_0 (m : Mc) : Mc := { m with pc := w16 (m.pc + 1), r5 := m.r1 }
theorem p69_0 : endsAt [0, 1] (Ly.run ctx3 3000 [] (sP m g 105 b1 b2)) = some (T [], .int .i64 0, 5, hPm (z69_0 m) (memL g)) := by kernel_rfl
theorem r69_0 : endsAt [0, 1, 2] (Ly.run ctx3 3000 [(4, true)] (sR m g 105)) = some (T [inw m.pc && true], .int .i64 0, 3, hRm (z69_0 m) (memL g)) := by kernel_rfl
theorem o69 (hm : m.Ok) (hg : ∀ e, B8 (g e)) (hh : m.halt = false) (h0 : g (ix m.pc) = 105) : Both m g := by
  obtain ⟨r0, r1, r2, r3, r4, r5, r7, sp, pc⟩ := id hm
  exact joinA (m' := (z69_0 m)) hm hh h0 (p69_0 m g _ _) (r69_0 m g) hg
@[simp] def z6a_0 (m : Mc) : Mc := { m with pc := w16 (m.pc + 1), r5 := m.r2 }
theorem p6a_0 : endsAt [0, 1] (Ly.run ctx3 3000 [] (sP m g 106 b1 b2)) = some (T [], .int .i64 0, 5, hPm (z6a_0 m) (memL g)) := by kernel_rfl
theorem r6a_0 : endsAt [0, 1, 2] (Ly.run ctx3 3000 [(4, true)] (sR m g 106)) = some (T [inw m.pc && true], .int .i64 0, 3, hRm (z6a_0 m) (memL g)) := by kernel_rfl
theorem o6a (hm : m.Ok) (hg : ∀ e, B8 (g e)) (hh : m.halt = false) (h0 : g (ix m.pc) = 106) : Both m g := by
  obtain ⟨r0, r1, r2, r3, r4, r5, r7, sp, pc⟩ := id hm
  exact joinA (m' := (z6a_0 m)) hm hh h0 (p6a_0 m g _ _) (r6a_0 m g) hg
@[simp] def z6b_0 (m : Mc) : Mc := { m with pc := w16 (m.pc + 1), r5 := m.r3 }
theorem p6b_0 : endsAt [0, 1] (Ly.run ctx3 3000 [] (sP m g 107 b1 b2)) = some (T [], .int .i64 0, 5, hPm (z6b_0 m) (memL g)) := by kernel_rfl
theorem r6b_0 : endsAt [0, 1, 2] (Ly.run ctx3 3000 [(4, true)] (sR m g 107)) = some (T [inw m.pc && true], .int .i64 0, 3, hRm (z6b_0 m) (memL g)) := by kernel_rfl
theorem o6b (hm : m.Ok) (hg : ∀ e, B8 (g e)) (hh : m.halt = false) (h0 : g (ix m.pc) = 107) : Both m g := by
  obtain ⟨r0, r1, r2, r3, r4, r5, r7, sp, pc⟩ := id hm
  exact joinA (m' := (z6b_0 m)) hm hh h0 (p6b_0 m g _ _) (r6b_0 m g) hg
@[simp] def z6c_0 (m : Mc) : Mc := { m with pc := w16 (m.pc + 1), r5 := m.r4 }
theorem p6c_0 : endsAt [0, 1] (Ly.run ctx3 3000 [] (sP m g 108 b1 b2)) = some (T [], .int .i64 0, 5, hPm (z6c_0 m) (memL g)) := by kernel_rfl
theorem r6c_0 : endsAt [0, 1, 2] (Ly.run ctx3 3000 [(4, true)] (sR m g 108)) = some (T [inw m.pc && true], .int .i64 0, 3, hRm (z6c_0 m) (memL g)) := by kernel_rfl
theorem o6c (hm : m.Ok) (hg : ∀ e, B8 (g e)) (hh : m.halt = false) (h0 : g (ix m.pc) = 108) : Both m g := by
  obtain ⟨r0, r1, r2, r3, r4, r5, r7, sp, pc⟩ := id hm
  exact joinA (m' := (z6c_0 m)) hm hh h0 (p6c_0 m g _ _) (r6c_0 m g) hg
theorem p6d_0 : endsAt [0, 1] (Ly.run ctx3 3000 [] (sP m g 109 b1 b2)) = some (T [], .int .i64 0, 5, hPm { m with pc := w16 (m.pc + 1) } (memL g)) := by kernel_rfl
theorem r6d_0 : endsAt [0, 1, 2] (Ly.run ctx3 3000 [(4, true)] (sR m g 109)) = some (T [inw m.pc && true], .int .i64 0, 3, hRm { m with pc := w16 (m.pc + 1) } (memL g)) := by kernel_rfl
theorem o6d (hm : m.Ok) (hg : ∀ e, B8 (g e)) (hh : m.halt = false) (h0 : g (ix m.pc) = 109) : Both m g := by
  obtain ⟨r0, r1, r2, r3, r4, r5, r7, sp, pc⟩ := id hm
  exact joinA (m' := { m with pc := w16 (m.pc + 1) }) hm hh h0 (p6d_0 m g _ _) (r6d_0 m g) hg
@[simp] def z6e_0 (m : Mc) (g : Nat → Int) : Mc := { m with pc := w16 (m.pc + 1), r5 := g (ix (or16 (w16 (w16 m.r4 * 256)) (w16 m.r5))) }
theorem p6e_0 : endsAt [0, 1] (Ly.run ctx3 3000 [(28, true), (0, true)] (sP m g 110 b1 b2)) = some (T [(true && lt16 (or16 (w16 (w16 m.r4 * 256)) (w16 m.r5))), bl (ix (or16 (w16 (w16 m.r4 * 256)) (w16 m.r5)))], .int .i64 0, 5, hPm (z6e_0 m g) (memL g)) := by kernel_rfl
theorem r6e_0 : endsAt [0, 1, 2] (Ly.run ctx3 3000 [(4, true), (11, true), (0, true), (0, true)] (sR m g 110)) = some (T [inw m.pc && true, inb m.r4 && inb m.r5, rg (256 * m.r4 + m.r5), bl (ix (256 * m.r4 + m.r5))], .int .i64 0, 3, hRm { m with pc := w16 (m.pc + 1), r5 := g (ix (256 * m.r4 + m.r5)) } (memL g)) := by kernel_rfl
theorem o6e (hm : m.Ok) (hg : ∀ e, B8 (g e)) (hh : m.halt = false) (h0 : g (ix m.pc) = 110) : Both m g := by
  obtain ⟨r0, r1, r2, r3, r4, r5, r7, sp, pc⟩ := id hm
  exact joinA (m' := (z6e_0 m g)) hm hh h0 (p6e_0 m g _ _) (r6e_0 m g) hg
@[simp] def z6f_0 (m : Mc) : Mc := { m with pc := w16 (m.pc + 1), r5 := m.r7 }
theorem p6f_0 : endsAt [0, 1] (Ly.run ctx3 3000 [] (sP m g 111 b1 b2)) = some (T [], .int .i64 0, 5, hPm (z6f_0 m) (memL g)) := by kernel_rfl
theorem r6f_0 : endsAt [0, 1, 2] (Ly.run ctx3 3000 [(4, true)] (sR m g 111)) = some (T [inw m.pc && true], .int .i64 0, 3, hRm (z6f_0 m) (memL g)) := by kernel_rfl
theorem o6f (hm : m.Ok) (hg : ∀ e, B8 (g e)) (hh : m.halt = false) (h0 : g (ix m.pc) = 111) : Both m g := by
  obtain ⟨r0, r1, r2, r3, r4, r5, r7, sp, pc⟩ := id hm
  exact joinA (m' := (z6f_0 m)) hm hh h0 (p6f_0 m g _ _) (r6f_0 m g) hg
theorem blk6 (m : Mc) (g : Nat → Int) (hm : m.Ok) (hg : ∀ e, B8 (g e)) (hh : m.halt = false) (h1 : 96 ≤ g (ix m.pc)) (h2 : g (ix m.pc) < 112) : Both m g := by
  have h : g (ix m.pc) = 96 ∨ g (ix m.pc) = 97 ∨ g (ix m.pc) = 98 ∨ g (ix m.pc) = 99 ∨ g (ix m.pc) = 100 ∨ g (ix m.pc) = 101 ∨ g (ix m.pc) = 102 ∨ g (ix m.pc) = 103 ∨ g (ix m.pc) = 104 ∨ g (ix m.pc) = 105 ∨ g (ix m.pc) = 106 ∨ g (ix m.pc) = 107 ∨ g (ix m.pc) = 108 ∨ g (ix m.pc) = 109 ∨ g (ix m.pc) = 110 ∨ g (ix m.pc) = 111 := by omega
  rcases h with h | h | h | h | h | h | h | h | h | h | h | h | h | h | h | h
  · exact o60 m g hm hg hh h
  · exact o61 m g hm hg hh h
  · exact o62 m g hm hg hh h
  · exact o63 m g hm hg hh h
  · exact o64 m g hm hg hh h
  · exact o65 m g hm hg hh h
  · exact o66 m g hm hg hh h
  · exact o67 m g hm hg hh h
  · exact o68 m g hm hg hh h
  · exact o69 m g hm hg hh h
  · exact o6a m g hm hg hh h
  · exact o6b m g hm hg hh h
  · exact o6c m g hm hg hh h
  · exact o6d m g hm hg hh h
  · exact o6e m g hm hg hh h
  · exact o6f m g hm hg hh h
end Go.Proofs.Ytpggoincnebfnaa
namespace Go.Proofs.Ytpggoincnebfnaa
open Go Go.Ly Go.RowKit
variable (m : Mc) (g : Nat → Int) (b1 b2 : Int)
theorem p70_0 : endsAt [0, 1] (Ly.run ctx3 3000 [(26, true), (2, true)] (sP m g 112 b1 b2)) = some (T [(true && lt16 (or16 (w16 (w16 m.r4 * 256)) (w16 m.r5))), bl (ix (or16 (w16 (w16 m.r4 * 256)) (w16 m.r5)))], .int .i64 0, 5, hPm { m with pc := w16 (m.pc + 1) } (M1 g (ix (or16 (w16 (w16 m.r4 * 256)) (w16 m.r5))) (m.r0))) := by kernel_rfl
theorem r70_0 : endsAt [0, 1, 2] (Ly.run ctx3 3000 [(4, true), (13, true), (0, true), (0, true)] (sR m g 112)) = some (T [inw m.pc && true, inb m.r4 && inb m.r5, rg (256 * m.r4 + m.r5), bl (ix (256 * m.r4 + m.r5))], .int .i64 0, 3, hRm { m with pc := w16 (m.pc + 1) } (M1 g (ix (256 * m.r4 + m.r5)) (m.r0))) := by kernel_rfl
theorem o70 (hm : m.Ok) (hg : ∀ e, B8 (g e)) (hh : m.halt = false) (h0 : g (ix m.pc) = 112) : Both m g := by
  obtain ⟨r0, r1, r2, r3, r4, r5, r7, sp, pc⟩ := id hm
  exact join (m' := { m with pc := w16 (m.pc + 1) }) (g' := (upd g (ix (or16 (w16 (w16 m.r4 * 256)) (w16 m.r5))) (m.r0))) hm hh h0 (p70_0 m g _ _) (r70_0 m g) (by simp [*]) (by simp [*]) (by decide) (by decide) (eP (m1s rfl rfl)) (eR rfl (m1s (by simp [*]) (by simp [*]))) (by constructor <;> simp [*]) (upd_b8 hg (by simp [*]))
theorem p71_0 : endsAt [0, 1] (Ly.run ctx3 3000 [(26, true), (2, true)] (sP m g 113 b1 b2)) = some (T [(true && lt16 (or16 (w16 (w16 m.r4 * 256)) (w16 m.r5))), bl (ix (or16 (w16 (w16 m.r4 * 256)) (w16 m.r5)))], .int .i64 0, 5, hPm { m with pc := w16 (m.pc + 1) } (M1 g (ix (or16 (w16 (w16 m.r4 * 256)) (w16 m.r5))) (m.r1))) := by kernel_rfl
theorem r71_0 : endsAt [0, 1, 2] (Ly.run ctx3 3000 [(4, true), (13, true), (0, true), (0, true)] (sR m g 113)) = some (T [inw m.pc && true, inb m.r4 && inb m.r5, rg (256 * m.r4 + m.r5), bl (ix (256 * m.r4 + m.r5))], .int .i64 0, 3, hRm { m with pc := w16 (m.pc + 1) } (M1 g (ix (256 * m.r4 + m.r5)) (m.r1))) := by kernel_rfl
theorem o71 (hm : m.Ok) (hg : ∀ e, B8 (g e)) (hh : m.halt = false) (h0 : g (ix m.pc) = 113) : Both m g := by
  obtain ⟨r0, r1, r2, r3, r4, r5, r7, sp, pc⟩ := id hm
  exact join (m' := { m with pc := w16 (m.pc + 1) }) (g' := (upd g (ix (or16 (w16 (w16 m.r4 * 256)) (w16 m.r5))) (m.r1))) hm hh h0 (p71_0 m g _ _) (r71_0 m g) (by simp [*]) (by simp [*]) (by decide) (by decide) (eP (m1s rfl rfl)) (eR rfl (m1s (by simp [*]) (by simp [*]))) (by constructor <;> simp [*]) (upd_b8 hg (by simp [*]))
theorem p72_0 : endsAt [0, 1] (Ly.run ctx3 3000 [(26, true), (2, true)] (sP m g 114 b1 b2)) = some (T [(true && lt16 (or16 (w16 (w16 m.r4 * 256)) (w16 m.r5))), bl (ix (or16 (w16 (w16 m.r4 * 256)) (w16 m.r5)))], .int .i64 0, 5, hPm { m with pc := w16 (m.pc + 1) } (M1 g (ix (or16 (w16 (w16 m.r4 * 256)) (w16 m.r5))) (m.r2))) := by kernel_rfl
theorem r72_0 : endsAt [0, 1, 2] (Ly.run ctx3 3000 [(4, true), (13, true), (0, true), (0, true)] (sR m g 114)) = some (T [inw m.pc && true, inb m.r4 && inb m.r5, rg (256 * m.r4 + m.r5), bl (ix (256 * m.r4 + m.r5))], .int .i64 0, 3, hRm { m with pc := w16 (m.pc + 1) } (M1 g (ix (256 * m.r4 + m.r5)) (m.r2))) := by kernel_rfl
theorem o72 (hm : m.Ok) (hg : ∀ e, B8 (g e)) (hh : m.halt = false) (h0 : g (ix m.pc) = 114) : Both m g := by
  obtain ⟨r0, r1, r2, r3, r4, r5, r7, sp, pc⟩ := id hm
  exact join (m' := { m with pc := w16 (m.pc + 1) }) (g' := (upd g (ix (or16 (w16 (w16 m.r4 * 256)) (w16 m.r5))) (m.r2))) hm hh h0 (p72_0 m g _ _) (r72_0 m g) (by simp [*]) (by simp [*]) (by decide) (by decide) (eP (m1s rfl rfl)) (eR rfl (m1s (by simp [*]) (by simp [*]))) (by constructor <;> simp [*]) (upd_b8 hg (by simp [*]))
theorem p73_0 : endsAt [0, 1] (Ly.run ctx3 3000 [(26, true), (2, true)] (sP m g 115 b1 b2)) = some (T [(true && lt16 (or16 (w16 (w16 m.r4 * 256)) (w16 m.r5))), bl (ix (or16 (w16 (w16 m.r4 * 256)) (w16 m.r5)))], .int .i64 0, 5, hPm { m with pc := w16 (m.pc + 1) } (M1 g (ix (or16 (w16 (w16 m.r4 * 256)) (w16 m.r5))) (m.r3))) := by kernel_rfl
theorem r73_0 : endsAt [0, 1, 2] (Ly.run ctx3 3000 [(4, true), (13, true), (0, true), (0, true)] (sR m g 115)) = some (T [inw m.pc && true, inb m.r4 && inb m.r5, rg (256 * m.r4 + m.r5), bl (ix (256 * m.r4 + m.r5))], .int .i64 0, 3, hRm { m with pc := w16 (m.pc + 1) } (M1 g (ix (256 * m.r4 + m.r5)) (m.r3))) := by kernel_rfl
theorem o73 (hm : m.Ok) (hg : ∀ e, B8 (g e)) (hh : m.halt = false) (h0 : g (ix m.pc) = 115) : Both m g := by
  obtain ⟨r0, r1, r2, r3, r4, r5, r7, sp, pc⟩ := id hm
  exact join (m' := { m with pc := w16 (m.pc + 1) }) (g' := (upd g (ix (or16 (w16 (w16 m.r4 * 256)) (w16 m.r5))) (m.r3))) hm hh h0 (p73_0 m g _ _) (r73_0 m g) (by simp [*]) (by simp [*]) (by decide) (by decide) (eP (m1s rfl rfl)) (eR rfl (m1s (by simp [*]) (by simp [*]))) (by constructor <;> simp [*]) (upd_b8 hg (by simp [*]))
theorem p74_0 : endsAt [0, 1] (Ly.run ctx3 3000 [(26, true), (2, true)] (sP m g 116 b1 b2)) = some (T [(true && lt16 (or16 (w16 (w16 m.r4 * 256)) (w16 m.r5))), bl (ix (or16 (w16 (w16 m.r4 * 256)) (w16 m.r5)))], .int .i64 0, 5, hPm { m with pc := w16 (m.pc + 1) } (M1 g (ix (or16 (w16 (w16 m.r4 * 256)) (w16 m.r5))) (m.r4))) := by kernel_rfl
theorem r74_0 : endsAt [0, 1, 2] (Ly.run ctx3 3000 [(4, true), (13, true), (0, true), (0, true)] (sR m g 116)) = some (T [inw m.pc && true, inb m.r4 && inb m.r5, rg (256 * m.r4 + m.r5), bl (ix (256 * m.r4 + m.r5))], .int .i64 0, 3, hRm { m with pc := w16 (m.pc + 1) } (M1 g (ix (256 * m.r4 + m.r5)) (m.r4))) := by kernel_rfl
theorem o74 (hm : m.Ok) (hg : ∀ e, B8 (g e)) (hh : m.halt = false) (h0 : g (ix m.pc) = 116) : Both m g := by
  obtain ⟨r0, r1, r2, r3, r4, r5, r7, sp, pc⟩ := id hm
  exact join (m' := { m with pc := w16 (m.pc + 1) }) (g' := (upd g (ix (or16 (w16 (w16 m.r4 * 256)) (w16 m.r5))) (m.r4))) hm hh h0 (p74_0 m g _ _) (r74_0 m g) (by simp [*]) (by simp [*]) (by decide) (by decide) (eP (m1s rfl rfl)) (eR rfl (m1s (by simp [*]) (by simp [*]))) (by constructor <;> simp [*]) (upd_b8 hg (by simp [*]))
theorem p75_0 : endsAt [0, 1] (Ly.run ctx3 3000 [(26, true), (2, true)] (sP m g 117 b1 b2)) = some (T [(true && lt16 (or16 (w16 (w16 m.r4 * 256)) (w16 m.r5))), bl (ix (or16 (w16 (w16 m.r4 * 256)) (w16 m.r5)))], .int .i64 0, 5, hPm { m with pc := w16 (m.pc + 1) } (M1 g (ix (or16 (w16 (w16 m.r4 * 256)) (w16 m.r5))) (m.r5))) := by kernel_rfl
theorem r75_0 : endsAt [0, 1, 2] (Ly.run ctx3 3000 [(4, true), (13, true), (0, true), (0, true)] (sR m g 117)) = some (T [inw m.pc && true, inb m.r4 && inb m.r5, rg (256 * m.r4 + m.r5), bl (ix (256 * m.r4 + m.r5))], .int .i64 0, 3, hRm { m with pc := w16 (m.pc + 1) } (M1 g (ix (256 * m.r4 + m.r5)) (m.r5))) := by kernel_rfl
theorem o75 (hm : m.Ok) (hg : ∀ e, B8 (g e)) (hh : m.halt = false) (h0 : g (ix m.pc) = 117) : Both m g := by
  obtain ⟨r0, r1, r2, r3, r4, r5, r7, sp, pc⟩ := id hm
  exact join (m' := { m with pc := w16 (m.pc + 1) }) (g' := (upd g (ix (or16 (w16 (w16 m.r4 * 256)) (w16 m.r5))) (m.r5))) hm hh h0 (p75_0 m g _ _) (r75_0 m g) (by simp [*]) (by simp [*]) (by decide) (by decide) (eP (m1s rfl rfl)) (eR rfl (m1s (by simp [*]) (by simp [*]))) (by constructor <;> simp [*]) (upd_b8 hg (by simp [*]))
@[simp] def z76_0 (m : Mc) : Mc := { m with halt := true, pc := w16 (m.pc + 1) }
theorem p76_0 : endsAt [0, 1] (Ly.run ctx3 3000 [] (sP m g 118 b1 b2)) = some (T [], .int .i64 0, 5, hPm (z76_0 m) (memL g)) := by kernel_rfl
theorem r76_0 : endsAt [0, 1, 2] (Ly.run ctx3 3000 [(4, true)] (sR m g 118)) = some (T [inw m.pc && true], .int .i64 0, 3, hRm (z76_0 m) (memL g)) := by kernel_rfl
theorem o76 (hm : m.Ok) (hg : ∀ e, B8 (g e)) (hh : m.halt = false) (h0 : g (ix m.pc) = 118) : Both m g := by
  obtain ⟨r0, r1, r2, r3, r4, r5, r7, sp, pc⟩ := id hm
  exact joinA (m' := (z76_0 m)) hm hh h0 (p76_0 m g _ _) (r76_0 m g) hg
theorem p77_0 : endsAt [0, 1] (Ly.run ctx3 3000 [(26, true), (2, true)] (sP m g 119 b1 b2)) = some (T [(true && lt16 (or16 (w16 (w16 m.r4 * 256)) (w16 m.r5))), bl (ix (or16 (w16 (w16 m.r4 * 256)) (w16 m.r5)))], .int .i64 0, 5, hPm { m with pc := w16 (m.pc + 1) } (M1 g (ix (or16 (w16 (w16 m.r4 * 256)) (w16 m.r5))) (m.r7))) := by kernel_rfl
theorem r77_0 : endsAt [0, 1, 2] (Ly.run ctx3 3000 [(4, true), (13, true), (0, true), (0, true)] (sR m g 119)) = some (T [inw m.pc && true, inb m.r4 && inb m.r5, rg (256 * m.r4 + m.r5), bl (ix (256 * m.r4 + m.r5))], .int .i64 0, 3, hRm { m with pc := w16 (m.pc + 1) } (M1 g (ix (256 * m.r4 + m.r5)) (m.r7))) := by kernel_rfl
theorem o77 (hm : m.Ok) (hg : ∀ e, B8 (g e)) (hh : m.halt = false) (h0 : g (ix m.pc) = 119) : Both m g := by
  obtain ⟨r0, r1, r2, r3, r4, r5, r7, sp, pc⟩ := id hm
  exact join (m' := { m with pc := w16 (m.pc + 1) }) (g' := (upd g (ix (or16 (w16 (w16 m.r4 * 256)) (w16 m.r5))) (m.r7))) hm hh h0 (p77_0 m g _ _) (r77_0 m g) (by simp [*]) (by simp [*]) (by decide) (by decide) (eP (m1s rfl rfl)) (eR rfl (m1s (by simp [*]) (by simp [*]))) (by constructor <;> simp [*]) (upd_b8 hg (by simp [*]))
@[simp] def z78_0 (m : Mc) : Mc := { m with pc := w16 (m.pc + 1), r7 := m.r0 }
theorem p78_0 : endsAt [0, 1] (Ly.run ctx3 3000 [] (sP m g 120 b1 b2)) = some (T [], .int .i64 0, 5, hPm (z78_0 m) (memL g)) := by kernel_rfl
theorem r78_0 : endsAt [0, 1, 2] (Ly.run ctx3 3000 [(4, true)] (sR m g 120)) = some (T [inw m.pc && true], .int .i64 0, 3, hRm (z78_0 m) (memL g)) := by kernel_rfl
theorem o78 (hm : m.Ok) (hg : ∀ e, B8 (g e)) (hh : m.halt = false) (h0 : g (ix m.pc) = 120) : Both m g := by
  obtain ⟨r0, r1, r2, r3, r4, r5, r7, sp, pc⟩ := id hm
  exact joinA (m' := (z78_0 m)) hm hh h0 (p78_0 m g _ _) (r78_0 m g) hg
@[simp] def z79_0 (m : Mc) : Mc := { m with pc := w16 (m.pc + 1), r7 := m.r1 }
theorem p79_0 : endsAt [0, 1] (Ly.run ctx3 3000 [] (sP m g 121 b1 b2)) = some (T [], .int .i64 0, 5, hPm (z79_0 m) (memL g)) := by kernel_rfl
theorem r79_0 : endsAt [0, 1, 2] (Ly.run ctx3 3000 [(4, true)] (sR m g 121)) = some (T [inw m.pc && true], .int .i64 0, 3, hRm (z79_0 m) (memL g)) := by kernel_rfl
theorem o79 (hm : m.Ok) (hg : ∀ e, B8 (g e)) (hh : m.halt = false) (h0 : g (ix m.pc) = 121) : Both m g := by
  obtain ⟨r0, r1, r2, r3, r4, r5, r7, sp, pc⟩ := id hm
  exact joinA (m' := (z79_0 m)) hm hh h0 (p79_0 m g _ _) (r79_0 m g) hg
@[simp] def z7a_0 (m : Mc) : Mc := { m with pc := w16 (m.pc + 1), r7 := m.r2 }
theorem p7a_0 : endsAt [0, 1] (Ly.run ctx3 3000 [] (sP m g 122 b1 b2)) = some (T [], .int .i64 0, 5, hPm (z7a_0 m) (memL g)) := by kernel_rfl
theorem r7a_0 : endsAt [0, 1, 2] (Ly.run ctx3 3000 [(4, true)] (sR m g 122)) = some (T [inw m.pc && true], .int .i64 0, 3, hRm (z7a_0 m) (memL g)) := by kernel_rfl
theorem o7a (hm : m.Ok) (hg : ∀ e, B8 (g e)) (hh : m.halt = false) (h0 : g (ix m.pc) = 122) : Both m g := by
  obtain ⟨r0, r1, r2, r3, r4, r5, r7, sp, pc⟩ := id hm
  exact joinA (m' := (z7a_0 m)) hm hh h0 (p7a_0 m g _ _) (r7a_0 m g) hg
@[simp] def z7b_0 (m : Mc) : Mc := { m with pc := w16 (m.pc + 1), r7 := m.r3 }
theorem p7b_0 : endsAt [0, 1] (Ly.run ctx3 3000 [] (sP m g 123 b1 b2)) = some (T [], .int .i64 0, 5, hPm (z7b_0 m) (memL g)) := by kernel_rfl
theorem r7b_0 : endsAt [0, 1, 2] (Ly.run ctx3 3000 [(4, true)] (sR m g 123)) = some (T [inw m.pc && true], .int .i64 0, 3, hRm (z7b_0 m) (memL g)) := by kernel_rfl
theorem o7b (hm : m.Ok) (hg : ∀ e, B8 (g e)) (hh : m.halt = false) (h0 : g (ix m.pc) = 123) : Both m g := by
  obtain ⟨r0, r1, r2, r3, r4, r5, r7, sp, pc⟩ := id hm
  exact joinA (m' := (z7b_0 m)) hm hh h0 (p7b_0 m g _ _) (r7b_0 m g) hg
@[simp] def z7c_0 (m : Mc) : Mc := { m with pc := w16 (m.pc + 1), r7 := m.r4 }
theorem p7c_0 : endsAt [0, 1] (Ly.run ctx3 3000 [] (sP m g 124 b1 b2)) = some (T [], .int .i64 0, 5, hPm (z7c_0 m) (memL g)) := by kernel_rfl
theorem r7c_0 : endsAt [0, 1, 2] (Ly.run ctx3 3000 [(4, true)] (sR m g 124)) = some (T [inw m.pc && true], .int .i64 0, 3, hRm (z7c_0 m) (memL g)) := by kernel_rfl
theorem o7c (hm : m.Ok) (hg : ∀ e, B8 (g e)) (hh : m.halt = false) (h0 : g (ix m.pc) = 124) : Both m g := by
  obtain ⟨r0, r1, r2, r3, r4, r5, r7, sp, pc⟩ := id hm
  exact joinA (m' := (z7c_0 m)) hm hh h0 (p7c_0 m g _ _) (r7c_0 m g) hg
@[simp] def z7d_0 (m : Mc) : Mc := { m with pc := w16 (m.pc + 1), r7 := m.r5 }
theorem p7d_0 : endsAt [0, 1] (Ly.run ctx3 3000 [] (sP m g 125 b1 b2)) = some (T [], .int .i64 0, 5, hPm (z7d_0 m) (memL g)) := by kernel_rfl
theorem r7d_0 : endsAt [0, 1, 2] (Ly.run ctx3 3000 [(4, true)] (sR m g 125)) = some (T [inw m.pc && true], .int .i64 0, 3, hRm (z7d_0 m) (memL g)) := by kernel_rfl
theorem o7d (hm : m.Ok) (hg : ∀ e, B8 (g e)) (hh : m.halt = false) (h0 : g (ix m.pc) = 125) : Both m g := by
  obtain ⟨r0, r1, r2, r3, r4, r5, r7, sp, pc⟩ := id hm
  exact joinA (m' := (z7d_0 m)) hm hh h0 (p7d_0 m g _ _) (r7d_0 m g) hg
@[simp] def z7e_0 (m : Mc) (g : Nat → Int) : Mc := { m with pc := w16 (m.pc + 1), r7 := g (ix (or16 (w16 (w16 m.r4 * 256)) (w16 m.r5))) }
theorem p7e_0 : endsAt [0, 1] (Ly.run ctx3 3000 [(28, true), (0, true)] (sP m g 126 b1 b2)) = some (T [(true && lt16 (or16 (w16 (w16 m.r4 * 256)) (w16 m.r5))), bl (ix (or16 (w16 (w16 m.r4 * 256)) (w16 m.r5)))], .int .i64 0, 5, hPm (z7e_0 m g) (memL g)) := by kernel_rfl
theorem r7e_0 : endsAt [0, 1, 2] (Ly.run ctx3 3000 [(4, true), (11, true), (0, true), (0, true)] (sR m g 126)) = some (T [inw m.pc && true, inb m.r4 && inb m.r5, rg (256 * m.r4 + m.r5), bl (ix (256 * m.r4 + m.r5))], .int .i64 0, 3, hRm { m with pc := w16 (m.pc + 1), r7 := g (ix (256 * m.r4 + m.r5)) } (memL g)) := by kernel_rfl
theorem o7e (hm : m.Ok) (hg : ∀ e, B8 (g e)) (hh : m.halt = false) (h0 : g (ix m.pc) = 126) : Both m g := by
  obtain ⟨r0, r1, r2, r3, r4, r5, r7, sp, pc⟩ := id hm
  exact joinA (m' := (z7e_0 m g)) hm hh h0 (p7e_0 m g _ _) (r7e_0 m g) hg
theorem p7f_0 : endsAt [0, 1] (Ly.run ctx3 3000 [] (sP m g 127 b1 b2)) = some (T [], .int .i64 0, 5, hPm { m with pc := w16 (m.pc + 1) } (memL g)) := by kernel_rfl
theorem r7f_0 : endsAt [0, 1, 2] (Ly.run ctx3 3000 [(4, true)] (sR m g 127)) = some (T [inw m.pc && true], .int .i64 0, 3, hRm { m with pc := w16 (m.pc + 1) } (memL g)) := by kernel_rfl
theorem o7f (hm : m.Ok) (hg : ∀ e, B8 (g e)) (hh : m.halt = false) (h0 : g (ix m.pc) = 127) : Both m g := by
  obtain ⟨r0, r1, r2, r3, r4, r5, r7, sp, pc⟩ := id hm
  exact joinA (m' := { m with pc := w16 (m.pc + 1) }) hm hh h0 (p7f_0 m g _ _) (r7f_0 m g) hg
theorem blk7 (m : Mc) (g : Nat → Int) (hm : m.Ok) (hg : ∀ e, B8 (g e)) (hh : m.halt = false) (h1 : 112 ≤ g (ix m.pc)) (h2 : g (ix m.pc) < 128) : Both m g := by
  have h : g (ix m.pc) = 112 ∨ g (ix m.pc) = 113 ∨ g (ix m.pc) = 114 ∨ g (ix m.pc) = 115 ∨ g (ix m.pc) = 116 ∨ g (ix m.pc) = 117 ∨ g (ix m.pc) = 118 ∨ g (ix m.pc) = 119 ∨ g (ix m.pc) = 120 ∨ g (ix m.pc) = 121 ∨ g (ix m.pc) = 122 ∨ g (ix m.pc) = 123 ∨ g (ix m.pc) = 124 ∨ g (ix m.pc) = 125 ∨ g (ix m.pc) = 126 ∨ g (ix m.pc) = 127 := by omega
  rcases h with h | h | h | h | h | h | h | h | h | h | h | h | h | h | h | h
  · exact o70 m g hm hg hh h
  · exact o71 m g hm hg hh h
  · exact o72 m g hm hg hh h
  · exact o73 m g hm hg hh h
  · exact o74 m g hm hg hh h
  · exact o75 m g hm hg hh h
  · exact o76 m g hm hg hh h
  · exact o77 m g hm hg hh h
  · exact o78 m g hm hg hh h
  · exact o79 m g hm hg hh h
  · exact o7a m g hm hg hh h
  · exact o7b m g hm hg hh h
  · exact o7c m g hm hg hh h
  · exact o7d m g hm hg hh h
  · exact o7e m g hm hg hh h
  · exact o7f m g hm hg hh h
end Go.Proofs.Ytpggoincnebfnaa
end
