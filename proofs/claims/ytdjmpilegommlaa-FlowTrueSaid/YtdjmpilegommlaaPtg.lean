/- Part 7 of the texts that the law needs, laid together. By program (pack.py). -/
import Derived.Test.YtdjmpilegommlaaPtf
import Derived.KernelRfl
set_option linter.unusedVariables false
set_option linter.unusedSimpArgs false
noncomputable section
namespace Go.Proofs.Ytdjmpilegommlaa
open Go Go.Ly Go.RowKit
theorem t50 {m : Mc} {g : Nat → Int} {s z x p c : Bool} (hm : m.Ok) (hg : ∀ e, B8 (g e)) (hh : m.halt = false) (h0 : g (ix m.pc) = 80) : Tw 0 m (setF m s z x p c) g := by
  obtain ⟨r0, r1, r2, r3, r4, r5, r7, sp, pc⟩ := id hm
  have hm2 := setF_ok (s := s) (z := z) (x := x) (p := p) (c := c) hm
  exact ⟨_, _, _, _, 0, joinP hm hh h0 (p50_0 m g _ _) (by simp [*]) (by decide) (eP (.inl rfl)), joinP hm2 hh h0 (p50_0 (setF m _ _ _ _ _) g _ _) (by simp [setF, *]) (by decide) (eP (.inl rfl)), ⟨rfl, rfl, rfl, rfl, rfl, rfl, rfl, rfl, rfl, rfl⟩, .inr (.inr (.inr ⟨rfl, ⟨⟨rfl, rfl, rfl, rfl⟩, rfl⟩, ⟨rfl, rfl, rfl, rfl⟩, rfl⟩))⟩
theorem t51 {m : Mc} {g : Nat → Int} {s z x p c : Bool} (hm : m.Ok) (hg : ∀ e, B8 (g e)) (hh : m.halt = false) (h0 : g (ix m.pc) = 81) : Tw 0 m (setF m s z x p c) g := by
  obtain ⟨r0, r1, r2, r3, r4, r5, r7, sp, pc⟩ := id hm
  have hm2 := setF_ok (s := s) (z := z) (x := x) (p := p) (c := c) hm
  exact ⟨_, _, _, _, 0, joinP hm hh h0 (p51_0 m g _ _) (by simp [*]) (by decide) (eP (.inl rfl)), joinP hm2 hh h0 (p51_0 (setF m _ _ _ _ _) g _ _) (by simp [setF, *]) (by decide) (eP (.inl rfl)), ⟨rfl, rfl, rfl, rfl, rfl, rfl, rfl, rfl, rfl, rfl⟩, .inr (.inr (.inr ⟨rfl, ⟨⟨rfl, rfl, rfl, rfl⟩, rfl⟩, ⟨rfl, rfl, rfl, rfl⟩, rfl⟩))⟩
theorem t52 {m : Mc} {g : Nat → Int} {s z x p c : Bool} (hm : m.Ok) (hg : ∀ e, B8 (g e)) (hh : m.halt = false) (h0 : g (ix m.pc) = 82) : Tw 0 m (setF m s z x p c) g := by
  obtain ⟨r0, r1, r2, r3, r4, r5, r7, sp, pc⟩ := id hm
  have hm2 := setF_ok (s := s) (z := z) (x := x) (p := p) (c := c) hm
  exact ⟨_, _, _, _, 0, joinP hm hh h0 (p52_0 m g _ _) (by simp [*]) (by decide) (eP (.inl rfl)), joinP hm2 hh h0 (p52_0 (setF m _ _ _ _ _) g _ _) (by simp [setF, *]) (by decide) (eP (.inl rfl)), ⟨rfl, rfl, rfl, rfl, rfl, rfl, rfl, rfl, rfl, rfl⟩, .inr (.inr (.inr ⟨rfl, ⟨⟨rfl, rfl, rfl, rfl⟩, rfl⟩, ⟨rfl, rfl, rfl, rfl⟩, rfl⟩))⟩
theorem t53 {m : Mc} {g : Nat → Int} {s z x p c : Bool} (hm : m.Ok) (hg : ∀ e, B8 (g e)) (hh : m.halt = false) (h0 : g (ix m.pc) = 83) : Tw 0 m (setF m s z x p c) g := by
  obtain ⟨r0, r1, r2, r3, r4, r5, r7, sp, pc⟩ := id hm
  have hm2 := setF_ok (s := s) (z := z) (x := x) (p := p) (c := c) hm
  exact ⟨_, _, _, _, 0, joinP hm hh h0 (p53_0 m g _ _) (by simp [*]) (by decide) (eP (.inl rfl)), joinP hm2 hh h0 (p53_0 (setF m _ _ _ _ _) g _ _) (by simp [setF, *]) (by decide) (eP (.inl rfl)), ⟨rfl, rfl, rfl, rfl, rfl, rfl, rfl, rfl, rfl, rfl⟩, .inr (.inr (.inr ⟨rfl, ⟨⟨rfl, rfl, rfl, rfl⟩, rfl⟩, ⟨rfl, rfl, rfl, rfl⟩, rfl⟩))⟩
theorem t54 {m : Mc} {g : Nat → Int} {s z x p c : Bool} (hm : m.Ok) (hg : ∀ e, B8 (g e)) (hh : m.halt = false) (h0 : g (ix m.pc) = 84) : Tw 0 m (setF m s z x p c) g := by
  obtain ⟨r0, r1, r2, r3, r4, r5, r7, sp, pc⟩ := id hm
  have hm2 := setF_ok (s := s) (z := z) (x := x) (p := p) (c := c) hm
  exact ⟨_, _, _, _, 0, joinP hm hh h0 (p54_0 m g _ _) (by simp [*]) (by decide) (eP (.inl rfl)), joinP hm2 hh h0 (p54_0 (setF m _ _ _ _ _) g _ _) (by simp [setF, *]) (by decide) (eP (.inl rfl)), ⟨rfl, rfl, rfl, rfl, rfl, rfl, rfl, rfl, rfl, rfl⟩, .inr (.inr (.inr ⟨rfl, ⟨⟨rfl, rfl, rfl, rfl⟩, rfl⟩, ⟨rfl, rfl, rfl, rfl⟩, rfl⟩))⟩
theorem t55 {m : Mc} {g : Nat → Int} {s z x p c : Bool} (hm : m.Ok) (hg : ∀ e, B8 (g e)) (hh : m.halt = false) (h0 : g (ix m.pc) = 85) : Tw 0 m (setF m s z x p c) g := by
  obtain ⟨r0, r1, r2, r3, r4, r5, r7, sp, pc⟩ := id hm
  have hm2 := setF_ok (s := s) (z := z) (x := x) (p := p) (c := c) hm
  exact ⟨_, _, _, _, 0, joinP hm hh h0 (p55_0 m g _ _) (by simp [*]) (by decide) (eP (.inl rfl)), joinP hm2 hh h0 (p55_0 (setF m _ _ _ _ _) g _ _) (by simp [setF, *]) (by decide) (eP (.inl rfl)), ⟨rfl, rfl, rfl, rfl, rfl, rfl, rfl, rfl, rfl, rfl⟩, .inr (.inr (.inr ⟨rfl, ⟨⟨rfl, rfl, rfl, rfl⟩, rfl⟩, ⟨rfl, rfl, rfl, rfl⟩, rfl⟩))⟩
theorem t56 {m : Mc} {g : Nat → Int} {s z x p c : Bool} (hm : m.Ok) (hg : ∀ e, B8 (g e)) (hh : m.halt = false) (h0 : g (ix m.pc) = 86) : Tw 0 m (setF m s z x p c) g := by
  obtain ⟨r0, r1, r2, r3, r4, r5, r7, sp, pc⟩ := id hm
  have hm2 := setF_ok (s := s) (z := z) (x := x) (p := p) (c := c) hm
  exact ⟨_, _, _, _, 0, joinP hm hh h0 (p56_0 m g _ _) (by simp [*]) (by decide) (eP (.inl rfl)), joinP hm2 hh h0 (p56_0 (setF m _ _ _ _ _) g _ _) (by simp [setF, *]) (by decide) (eP (.inl rfl)), ⟨rfl, rfl, rfl, rfl, rfl, rfl, rfl, rfl, rfl, rfl⟩, .inr (.inr (.inr ⟨rfl, ⟨⟨rfl, rfl, rfl, rfl⟩, rfl⟩, ⟨rfl, rfl, rfl, rfl⟩, rfl⟩))⟩
theorem t57 {m : Mc} {g : Nat → Int} {s z x p c : Bool} (hm : m.Ok) (hg : ∀ e, B8 (g e)) (hh : m.halt = false) (h0 : g (ix m.pc) = 87) : Tw 0 m (setF m s z x p c) g := by
  obtain ⟨r0, r1, r2, r3, r4, r5, r7, sp, pc⟩ := id hm
  have hm2 := setF_ok (s := s) (z := z) (x := x) (p := p) (c := c) hm
  exact ⟨_, _, _, _, 0, joinP hm hh h0 (p57_0 m g _ _) (by simp [*]) (by decide) (eP (.inl rfl)), joinP hm2 hh h0 (p57_0 (setF m _ _ _ _ _) g _ _) (by simp [setF, *]) (by decide) (eP (.inl rfl)), ⟨rfl, rfl, rfl, rfl, rfl, rfl, rfl, rfl, rfl, rfl⟩, .inr (.inr (.inr ⟨rfl, ⟨⟨rfl, rfl, rfl, rfl⟩, rfl⟩, ⟨rfl, rfl, rfl, rfl⟩, rfl⟩))⟩
theorem t58 {m : Mc} {g : Nat → Int} {s z x p c : Bool} (hm : m.Ok) (hg : ∀ e, B8 (g e)) (hh : m.halt = false) (h0 : g (ix m.pc) = 88) : Tw 0 m (setF m s z x p c) g := by
  obtain ⟨r0, r1, r2, r3, r4, r5, r7, sp, pc⟩ := id hm
  have hm2 := setF_ok (s := s) (z := z) (x := x) (p := p) (c := c) hm
  exact ⟨_, _, _, _, 0, joinP hm hh h0 (p58_0 m g _ _) (by simp [*]) (by decide) (eP (.inl rfl)), joinP hm2 hh h0 (p58_0 (setF m _ _ _ _ _) g _ _) (by simp [setF, *]) (by decide) (eP (.inl rfl)), ⟨rfl, rfl, rfl, rfl, rfl, rfl, rfl, rfl, rfl, rfl⟩, .inr (.inr (.inr ⟨rfl, ⟨⟨rfl, rfl, rfl, rfl⟩, rfl⟩, ⟨rfl, rfl, rfl, rfl⟩, rfl⟩))⟩
theorem t59 {m : Mc} {g : Nat → Int} {s z x p c : Bool} (hm : m.Ok) (hg : ∀ e, B8 (g e)) (hh : m.halt = false) (h0 : g (ix m.pc) = 89) : Tw 0 m (setF m s z x p c) g := by
  obtain ⟨r0, r1, r2, r3, r4, r5, r7, sp, pc⟩ := id hm
  have hm2 := setF_ok (s := s) (z := z) (x := x) (p := p) (c := c) hm
  exact ⟨_, _, _, _, 0, joinP hm hh h0 (p59_0 m g _ _) (by simp [*]) (by decide) (eP (.inl rfl)), joinP hm2 hh h0 (p59_0 (setF m _ _ _ _ _) g _ _) (by simp [setF, *]) (by decide) (eP (.inl rfl)), ⟨rfl, rfl, rfl, rfl, rfl, rfl, rfl, rfl, rfl, rfl⟩, .inr (.inr (.inr ⟨rfl, ⟨⟨rfl, rfl, rfl, rfl⟩, rfl⟩, ⟨rfl, rfl, rfl, rfl⟩, rfl⟩))⟩
theorem t5a {m : Mc} {g : Nat → Int} {s z x p c : Bool} (hm : m.Ok) (hg : ∀ e, B8 (g e)) (hh : m.halt = false) (h0 : g (ix m.pc) = 90) : Tw 0 m (setF m s z x p c) g := by
  obtain ⟨r0, r1, r2, r3, r4, r5, r7, sp, pc⟩ := id hm
  have hm2 := setF_ok (s := s) (z := z) (x := x) (p := p) (c := c) hm
  exact ⟨_, _, _, _, 0, joinP hm hh h0 (p5a_0 m g _ _) (by simp [*]) (by decide) (eP (.inl rfl)), joinP hm2 hh h0 (p5a_0 (setF m _ _ _ _ _) g _ _) (by simp [setF, *]) (by decide) (eP (.inl rfl)), ⟨rfl, rfl, rfl, rfl, rfl, rfl, rfl, rfl, rfl, rfl⟩, .inr (.inr (.inr ⟨rfl, ⟨⟨rfl, rfl, rfl, rfl⟩, rfl⟩, ⟨rfl, rfl, rfl, rfl⟩, rfl⟩))⟩
theorem t5b {m : Mc} {g : Nat → Int} {s z x p c : Bool} (hm : m.Ok) (hg : ∀ e, B8 (g e)) (hh : m.halt = false) (h0 : g (ix m.pc) = 91) : Tw 0 m (setF m s z x p c) g := by
  obtain ⟨r0, r1, r2, r3, r4, r5, r7, sp, pc⟩ := id hm
  have hm2 := setF_ok (s := s) (z := z) (x := x) (p := p) (c := c) hm
  exact ⟨_, _, _, _, 0, joinP hm hh h0 (p5b_0 m g _ _) (by simp [*]) (by decide) (eP (.inl rfl)), joinP hm2 hh h0 (p5b_0 (setF m _ _ _ _ _) g _ _) (by simp [setF, *]) (by decide) (eP (.inl rfl)), ⟨rfl, rfl, rfl, rfl, rfl, rfl, rfl, rfl, rfl, rfl⟩, .inr (.inr (.inr ⟨rfl, ⟨⟨rfl, rfl, rfl, rfl⟩, rfl⟩, ⟨rfl, rfl, rfl, rfl⟩, rfl⟩))⟩
theorem t5c {m : Mc} {g : Nat → Int} {s z x p c : Bool} (hm : m.Ok) (hg : ∀ e, B8 (g e)) (hh : m.halt = false) (h0 : g (ix m.pc) = 92) : Tw 0 m (setF m s z x p c) g := by
  obtain ⟨r0, r1, r2, r3, r4, r5, r7, sp, pc⟩ := id hm
  have hm2 := setF_ok (s := s) (z := z) (x := x) (p := p) (c := c) hm
  exact ⟨_, _, _, _, 0, joinP hm hh h0 (p5c_0 m g _ _) (by simp [*]) (by decide) (eP (.inl rfl)), joinP hm2 hh h0 (p5c_0 (setF m _ _ _ _ _) g _ _) (by simp [setF, *]) (by decide) (eP (.inl rfl)), ⟨rfl, rfl, rfl, rfl, rfl, rfl, rfl, rfl, rfl, rfl⟩, .inr (.inr (.inr ⟨rfl, ⟨⟨rfl, rfl, rfl, rfl⟩, rfl⟩, ⟨rfl, rfl, rfl, rfl⟩, rfl⟩))⟩
theorem t5d {m : Mc} {g : Nat → Int} {s z x p c : Bool} (hm : m.Ok) (hg : ∀ e, B8 (g e)) (hh : m.halt = false) (h0 : g (ix m.pc) = 93) : Tw 0 m (setF m s z x p c) g := by
  obtain ⟨r0, r1, r2, r3, r4, r5, r7, sp, pc⟩ := id hm
  have hm2 := setF_ok (s := s) (z := z) (x := x) (p := p) (c := c) hm
  exact ⟨_, _, _, _, 0, joinP hm hh h0 (p5d_0 m g _ _) (by simp [*]) (by decide) (eP (.inl rfl)), joinP hm2 hh h0 (p5d_0 (setF m _ _ _ _ _) g _ _) (by simp [setF, *]) (by decide) (eP (.inl rfl)), ⟨rfl, rfl, rfl, rfl, rfl, rfl, rfl, rfl, rfl, rfl⟩, .inr (.inr (.inr ⟨rfl, ⟨⟨rfl, rfl, rfl, rfl⟩, rfl⟩, ⟨rfl, rfl, rfl, rfl⟩, rfl⟩))⟩
theorem t5e {m : Mc} {g : Nat → Int} {s z x p c : Bool} (hm : m.Ok) (hg : ∀ e, B8 (g e)) (hh : m.halt = false) (h0 : g (ix m.pc) = 94) : Tw 0 m (setF m s z x p c) g := by
  obtain ⟨r0, r1, r2, r3, r4, r5, r7, sp, pc⟩ := id hm
  have hm2 := setF_ok (s := s) (z := z) (x := x) (p := p) (c := c) hm
  exact ⟨_, _, _, _, 0, joinP hm hh h0 (p5e_0 m g _ _) (by simp [*]) (by decide) (eP (.inl rfl)), joinP hm2 hh h0 (p5e_0 (setF m _ _ _ _ _) g _ _) (by simp [setF, *]) (by decide) (eP (.inl rfl)), ⟨rfl, rfl, rfl, rfl, rfl, rfl, rfl, rfl, rfl, rfl⟩, .inr (.inr (.inr ⟨rfl, ⟨⟨rfl, rfl, rfl, rfl⟩, rfl⟩, ⟨rfl, rfl, rfl, rfl⟩, rfl⟩))⟩
theorem t5f {m : Mc} {g : Nat → Int} {s z x p c : Bool} (hm : m.Ok) (hg : ∀ e, B8 (g e)) (hh : m.halt = false) (h0 : g (ix m.pc) = 95) : Tw 0 m (setF m s z x p c) g := by
  obtain ⟨r0, r1, r2, r3, r4, r5, r7, sp, pc⟩ := id hm
  have hm2 := setF_ok (s := s) (z := z) (x := x) (p := p) (c := c) hm
  exact ⟨_, _, _, _, 0, joinP hm hh h0 (p5f_0 m g _ _) (by simp [*]) (by decide) (eP (.inl rfl)), joinP hm2 hh h0 (p5f_0 (setF m _ _ _ _ _) g _ _) (by simp [setF, *]) (by decide) (eP (.inl rfl)), ⟨rfl, rfl, rfl, rfl, rfl, rfl, rfl, rfl, rfl, rfl⟩, .inr (.inr (.inr ⟨rfl, ⟨⟨rfl, rfl, rfl, rfl⟩, rfl⟩, ⟨rfl, rfl, rfl, rfl⟩, rfl⟩))⟩
end Go.Proofs.Ytdjmpilegommlaa
namespace Go.Proofs.Ytdjmpilegommlaa
open Go Go.Ly Go.RowKit
@[simp] def z60_0 (m : Mc) : Mc := { m with pc := w16 (m.pc + 1), r4 := m.r0 }
theorem p60_0 (m : Mc) (g : Nat → Int) (b1 b2 : Int) : endsAt [0, 1] (Ly.run cx3 3000 [] (sP m g 96 b1 b2)) = some (T [], .int .i64 0, 5, hPm (z60_0 m) (memL g)) := by kernel_rfl
@[simp] def z61_0 (m : Mc) : Mc := { m with pc := w16 (m.pc + 1), r4 := m.r1 }
theorem p61_0 (m : Mc) (g : Nat → Int) (b1 b2 : Int) : endsAt [0, 1] (Ly.run cx3 3000 [] (sP m g 97 b1 b2)) = some (T [], .int .i64 0, 5, hPm (z61_0 m) (memL g)) := by kernel_rfl
@[simp] def z62_0 (m : Mc) : Mc := { m with pc := w16 (m.pc + 1), r4 := m.r2 }
theorem p62_0 (m : Mc) (g : Nat → Int) (b1 b2 : Int) : endsAt [0, 1] (Ly.run cx3 3000 [] (sP m g 98 b1 b2)) = some (T [], .int .i64 0, 5, hPm (z62_0 m) (memL g)) := by kernel_rfl
@[simp] def z63_0 (m : Mc) : Mc := { m with pc := w16 (m.pc + 1), r4 := m.r3 }
theorem p63_0 (m : Mc) (g : Nat → Int) (b1 b2 : Int) : endsAt [0, 1] (Ly.run cx3 3000 [] (sP m g 99 b1 b2)) = some (T [], .int .i64 0, 5, hPm (z63_0 m) (memL g)) := by kernel_rfl
theorem p64_0 (m : Mc) (g : Nat → Int) (b1 b2 : Int) : endsAt [0, 1] (Ly.run cx3 3000 [] (sP m g 100 b1 b2)) = some (T [], .int .i64 0, 5, hPm { m with pc := w16 (m.pc + 1) } (memL g)) := by kernel_rfl
@[simp] def z65_0 (m : Mc) : Mc := { m with pc := w16 (m.pc + 1), r4 := m.r5 }
theorem p65_0 (m : Mc) (g : Nat → Int) (b1 b2 : Int) : endsAt [0, 1] (Ly.run cx3 3000 [] (sP m g 101 b1 b2)) = some (T [], .int .i64 0, 5, hPm (z65_0 m) (memL g)) := by kernel_rfl
@[simp] def z66_0 (m : Mc) (g : Nat → Int) : Mc := { m with pc := w16 (m.pc + 1), r4 := g (ix (or16 (w16 (w16 m.r4 * 256)) (w16 m.r5))) }
theorem p66_0 (m : Mc) (g : Nat → Int) (b1 b2 : Int) : endsAt [0, 1] (Ly.run cx3 3000 [(28, true), (0, true)] (sP m g 102 b1 b2)) = some (T [(true && lt16 (or16 (w16 (w16 m.r4 * 256)) (w16 m.r5))), bl (ix (or16 (w16 (w16 m.r4 * 256)) (w16 m.r5)))], .int .i64 0, 5, hPm (z66_0 m g) (memL g)) := by kernel_rfl
@[simp] def z67_0 (m : Mc) : Mc := { m with pc := w16 (m.pc + 1), r4 := m.r7 }
theorem p67_0 (m : Mc) (g : Nat → Int) (b1 b2 : Int) : endsAt [0, 1] (Ly.run cx3 3000 [] (sP m g 103 b1 b2)) = some (T [], .int .i64 0, 5, hPm (z67_0 m) (memL g)) := by kernel_rfl
@[simp] def z68_0 (m : Mc) : Mc := { m with pc := w16 (m.pc + 1), r5 := m.r0 }
theorem p68_0 (m : Mc) (g : Nat → Int) (b1 b2 : Int) : endsAt [0, 1] (Ly.run cx3 3000 [] (sP m g 104 b1 b2)) = some (T [], .int .i64 0, 5, hPm (z68_0 m) (memL g)) := by kernel_rfl
@[simp] def z69_0 (m : Mc) : Mc := { m with pc := w16 (m.pc + 1), r5 := m.r1 }
theorem p69_0 (m : Mc) (g : Nat → Int) (b1 b2 : Int) : endsAt [0, 1] (Ly.run cx3 3000 [] (sP m g 105 b1 b2)) = some (T [], .int .i64 0, 5, hPm (z69_0 m) (memL g)) := by kernel_rfl
@[simp] def z6a_0 (m : Mc) : Mc := { m with pc := w16 (m.pc + 1), r5 := m.r2 }
theorem p6a_0 (m : Mc) (g : Nat → Int) (b1 b2 : Int) : endsAt [0, 1] (Ly.run cx3 3000 [] (sP m g 106 b1 b2)) = some (T [], .int .i64 0, 5, hPm (z6a_0 m) (memL g)) := by kernel_rfl
@[simp] def z6b_0 (m : Mc) : Mc := { m with pc := w16 (m.pc + 1), r5 := m.r3 }
theorem p6b_0 (m : Mc) (g : Nat → Int) (b1 b2 : Int) : endsAt [0, 1] (Ly.run cx3 3000 [] (sP m g 107 b1 b2)) = some (T [], .int .i64 0, 5, hPm (z6b_0 m) (memL g)) := by kernel_rfl
@[simp] def z6c_0 (m : Mc) : Mc := { m with pc := w16 (m.pc + 1), r5 := m.r4 }
theorem p6c_0 (m : Mc) (g : Nat → Int) (b1 b2 : Int) : endsAt [0, 1] (Ly.run cx3 3000 [] (sP m g 108 b1 b2)) = some (T [], .int .i64 0, 5, hPm (z6c_0 m) (memL g)) := by kernel_rfl
theorem p6d_0 (m : Mc) (g : Nat → Int) (b1 b2 : Int) : endsAt [0, 1] (Ly.run cx3 3000 [] (sP m g 109 b1 b2)) = some (T [], .int .i64 0, 5, hPm { m with pc := w16 (m.pc + 1) } (memL g)) := by kernel_rfl
@[simp] def z6e_0 (m : Mc) (g : Nat → Int) : Mc := { m with pc := w16 (m.pc + 1), r5 := g (ix (or16 (w16 (w16 m.r4 * 256)) (w16 m.r5))) }
theorem p6e_0 (m : Mc) (g : Nat → Int) (b1 b2 : Int) : endsAt [0, 1] (Ly.run cx3 3000 [(28, true), (0, true)] (sP m g 110 b1 b2)) = some (T [(true && lt16 (or16 (w16 (w16 m.r4 * 256)) (w16 m.r5))), bl (ix (or16 (w16 (w16 m.r4 * 256)) (w16 m.r5)))], .int .i64 0, 5, hPm (z6e_0 m g) (memL g)) := by kernel_rfl
@[simp] def z6f_0 (m : Mc) : Mc := { m with pc := w16 (m.pc + 1), r5 := m.r7 }
theorem p6f_0 (m : Mc) (g : Nat → Int) (b1 b2 : Int) : endsAt [0, 1] (Ly.run cx3 3000 [] (sP m g 111 b1 b2)) = some (T [], .int .i64 0, 5, hPm (z6f_0 m) (memL g)) := by kernel_rfl
end Go.Proofs.Ytdjmpilegommlaa
namespace Go.Proofs.Ytdjmpilegommlaa
open Go Go.Ly Go.RowKit
theorem t60 {m : Mc} {g : Nat → Int} {s z x p c : Bool} (hm : m.Ok) (hg : ∀ e, B8 (g e)) (hh : m.halt = false) (h0 : g (ix m.pc) = 96) : Tw 0 m (setF m s z x p c) g := by
  obtain ⟨r0, r1, r2, r3, r4, r5, r7, sp, pc⟩ := id hm
  have hm2 := setF_ok (s := s) (z := z) (x := x) (p := p) (c := c) hm
  exact ⟨_, _, _, _, 0, joinP hm hh h0 (p60_0 m g _ _) (by simp [*]) (by decide) (eP (.inl rfl)), joinP hm2 hh h0 (p60_0 (setF m _ _ _ _ _) g _ _) (by simp [setF, *]) (by decide) (eP (.inl rfl)), ⟨rfl, rfl, rfl, rfl, rfl, rfl, rfl, rfl, rfl, rfl⟩, .inr (.inr (.inr ⟨rfl, ⟨⟨rfl, rfl, rfl, rfl⟩, rfl⟩, ⟨rfl, rfl, rfl, rfl⟩, rfl⟩))⟩
theorem t61 {m : Mc} {g : Nat → Int} {s z x p c : Bool} (hm : m.Ok) (hg : ∀ e, B8 (g e)) (hh : m.halt = false) (h0 : g (ix m.pc) = 97) : Tw 0 m (setF m s z x p c) g := by
  obtain ⟨r0, r1, r2, r3, r4, r5, r7, sp, pc⟩ := id hm
  have hm2 := setF_ok (s := s) (z := z) (x := x) (p := p) (c := c) hm
  exact ⟨_, _, _, _, 0, joinP hm hh h0 (p61_0 m g _ _) (by simp [*]) (by decide) (eP (.inl rfl)), joinP hm2 hh h0 (p61_0 (setF m _ _ _ _ _) g _ _) (by simp [setF, *]) (by decide) (eP (.inl rfl)), ⟨rfl, rfl, rfl, rfl, rfl, rfl, rfl, rfl, rfl, rfl⟩, .inr (.inr (.inr ⟨rfl, ⟨⟨rfl, rfl, rfl, rfl⟩, rfl⟩, ⟨rfl, rfl, rfl, rfl⟩, rfl⟩))⟩
theorem t62 {m : Mc} {g : Nat → Int} {s z x p c : Bool} (hm : m.Ok) (hg : ∀ e, B8 (g e)) (hh : m.halt = false) (h0 : g (ix m.pc) = 98) : Tw 0 m (setF m s z x p c) g := by
  obtain ⟨r0, r1, r2, r3, r4, r5, r7, sp, pc⟩ := id hm
  have hm2 := setF_ok (s := s) (z := z) (x := x) (p := p) (c := c) hm
  exact ⟨_, _, _, _, 0, joinP hm hh h0 (p62_0 m g _ _) (by simp [*]) (by decide) (eP (.inl rfl)), joinP hm2 hh h0 (p62_0 (setF m _ _ _ _ _) g _ _) (by simp [setF, *]) (by decide) (eP (.inl rfl)), ⟨rfl, rfl, rfl, rfl, rfl, rfl, rfl, rfl, rfl, rfl⟩, .inr (.inr (.inr ⟨rfl, ⟨⟨rfl, rfl, rfl, rfl⟩, rfl⟩, ⟨rfl, rfl, rfl, rfl⟩, rfl⟩))⟩
theorem t63 {m : Mc} {g : Nat → Int} {s z x p c : Bool} (hm : m.Ok) (hg : ∀ e, B8 (g e)) (hh : m.halt = false) (h0 : g (ix m.pc) = 99) : Tw 0 m (setF m s z x p c) g := by
  obtain ⟨r0, r1, r2, r3, r4, r5, r7, sp, pc⟩ := id hm
  have hm2 := setF_ok (s := s) (z := z) (x := x) (p := p) (c := c) hm
  exact ⟨_, _, _, _, 0, joinP hm hh h0 (p63_0 m g _ _) (by simp [*]) (by decide) (eP (.inl rfl)), joinP hm2 hh h0 (p63_0 (setF m _ _ _ _ _) g _ _) (by simp [setF, *]) (by decide) (eP (.inl rfl)), ⟨rfl, rfl, rfl, rfl, rfl, rfl, rfl, rfl, rfl, rfl⟩, .inr (.inr (.inr ⟨rfl, ⟨⟨rfl, rfl, rfl, rfl⟩, rfl⟩, ⟨rfl, rfl, rfl, rfl⟩, rfl⟩))⟩
theorem t64 {m : Mc} {g : Nat → Int} {s z x p c : Bool} (hm : m.Ok) (hg : ∀ e, B8 (g e)) (hh : m.halt = false) (h0 : g (ix m.pc) = 100) : Tw 0 m (setF m s z x p c) g := by
  obtain ⟨r0, r1, r2, r3, r4, r5, r7, sp, pc⟩ := id hm
  have hm2 := setF_ok (s := s) (z := z) (x := x) (p := p) (c := c) hm
  exact ⟨_, _, _, _, 0, joinP hm hh h0 (p64_0 m g _ _) (by simp [*]) (by decide) (eP (.inl rfl)), joinP hm2 hh h0 (p64_0 (setF m _ _ _ _ _) g _ _) (by simp [setF, *]) (by decide) (eP (.inl rfl)), ⟨rfl, rfl, rfl, rfl, rfl, rfl, rfl, rfl, rfl, rfl⟩, .inr (.inr (.inr ⟨rfl, ⟨⟨rfl, rfl, rfl, rfl⟩, rfl⟩, ⟨rfl, rfl, rfl, rfl⟩, rfl⟩))⟩
theorem t65 {m : Mc} {g : Nat → Int} {s z x p c : Bool} (hm : m.Ok) (hg : ∀ e, B8 (g e)) (hh : m.halt = false) (h0 : g (ix m.pc) = 101) : Tw 0 m (setF m s z x p c) g := by
  obtain ⟨r0, r1, r2, r3, r4, r5, r7, sp, pc⟩ := id hm
  have hm2 := setF_ok (s := s) (z := z) (x := x) (p := p) (c := c) hm
  exact ⟨_, _, _, _, 0, joinP hm hh h0 (p65_0 m g _ _) (by simp [*]) (by decide) (eP (.inl rfl)), joinP hm2 hh h0 (p65_0 (setF m _ _ _ _ _) g _ _) (by simp [setF, *]) (by decide) (eP (.inl rfl)), ⟨rfl, rfl, rfl, rfl, rfl, rfl, rfl, rfl, rfl, rfl⟩, .inr (.inr (.inr ⟨rfl, ⟨⟨rfl, rfl, rfl, rfl⟩, rfl⟩, ⟨rfl, rfl, rfl, rfl⟩, rfl⟩))⟩
theorem t66 {m : Mc} {g : Nat → Int} {s z x p c : Bool} (hm : m.Ok) (hg : ∀ e, B8 (g e)) (hh : m.halt = false) (h0 : g (ix m.pc) = 102) : Tw 0 m (setF m s z x p c) g := by
  obtain ⟨r0, r1, r2, r3, r4, r5, r7, sp, pc⟩ := id hm
  have hm2 := setF_ok (s := s) (z := z) (x := x) (p := p) (c := c) hm
  exact ⟨_, _, _, _, 0, joinP hm hh h0 (p66_0 m g _ _) (by simp [*]) (by decide) (eP (.inl rfl)), joinP hm2 hh h0 (p66_0 (setF m _ _ _ _ _) g _ _) (by simp [setF, *]) (by decide) (eP (.inl rfl)), ⟨rfl, rfl, rfl, rfl, rfl, rfl, rfl, rfl, rfl, rfl⟩, .inr (.inr (.inr ⟨rfl, ⟨⟨rfl, rfl, rfl, rfl⟩, rfl⟩, ⟨rfl, rfl, rfl, rfl⟩, rfl⟩))⟩
theorem t67 {m : Mc} {g : Nat → Int} {s z x p c : Bool} (hm : m.Ok) (hg : ∀ e, B8 (g e)) (hh : m.halt = false) (h0 : g (ix m.pc) = 103) : Tw 0 m (setF m s z x p c) g := by
  obtain ⟨r0, r1, r2, r3, r4, r5, r7, sp, pc⟩ := id hm
  have hm2 := setF_ok (s := s) (z := z) (x := x) (p := p) (c := c) hm
  exact ⟨_, _, _, _, 0, joinP hm hh h0 (p67_0 m g _ _) (by simp [*]) (by decide) (eP (.inl rfl)), joinP hm2 hh h0 (p67_0 (setF m _ _ _ _ _) g _ _) (by simp [setF, *]) (by decide) (eP (.inl rfl)), ⟨rfl, rfl, rfl, rfl, rfl, rfl, rfl, rfl, rfl, rfl⟩, .inr (.inr (.inr ⟨rfl, ⟨⟨rfl, rfl, rfl, rfl⟩, rfl⟩, ⟨rfl, rfl, rfl, rfl⟩, rfl⟩))⟩
theorem t68 {m : Mc} {g : Nat → Int} {s z x p c : Bool} (hm : m.Ok) (hg : ∀ e, B8 (g e)) (hh : m.halt = false) (h0 : g (ix m.pc) = 104) : Tw 0 m (setF m s z x p c) g := by
  obtain ⟨r0, r1, r2, r3, r4, r5, r7, sp, pc⟩ := id hm
  have hm2 := setF_ok (s := s) (z := z) (x := x) (p := p) (c := c) hm
  exact ⟨_, _, _, _, 0, joinP hm hh h0 (p68_0 m g _ _) (by simp [*]) (by decide) (eP (.inl rfl)), joinP hm2 hh h0 (p68_0 (setF m _ _ _ _ _) g _ _) (by simp [setF, *]) (by decide) (eP (.inl rfl)), ⟨rfl, rfl, rfl, rfl, rfl, rfl, rfl, rfl, rfl, rfl⟩, .inr (.inr (.inr ⟨rfl, ⟨⟨rfl, rfl, rfl, rfl⟩, rfl⟩, ⟨rfl, rfl, rfl, rfl⟩, rfl⟩))⟩
theorem t69 {m : Mc} {g : Nat → Int} {s z x p c : Bool} (hm : m.Ok) (hg : ∀ e, B8 (g e)) (hh : m.halt = false) (h0 : g (ix m.pc) = 105) : Tw 0 m (setF m s z x p c) g := by
  obtain ⟨r0, r1, r2, r3, r4, r5, r7, sp, pc⟩ := id hm
  have hm2 := setF_ok (s := s) (z := z) (x := x) (p := p) (c := c) hm
  exact ⟨_, _, _, _, 0, joinP hm hh h0 (p69_0 m g _ _) (by simp [*]) (by decide) (eP (.inl rfl)), joinP hm2 hh h0 (p69_0 (setF m _ _ _ _ _) g _ _) (by simp [setF, *]) (by decide) (eP (.inl rfl)), ⟨rfl, rfl, rfl, rfl, rfl, rfl, rfl, rfl, rfl, rfl⟩, .inr (.inr (.inr ⟨rfl, ⟨⟨rfl, rfl, rfl, rfl⟩, rfl⟩, ⟨rfl, rfl, rfl, rfl⟩, rfl⟩))⟩
theorem t6a {m : Mc} {g : Nat → Int} {s z x p c : Bool} (hm : m.Ok) (hg : ∀ e, B8 (g e)) (hh : m.halt = false) (h0 : g (ix m.pc) = 106) : Tw 0 m (setF m s z x p c) g := by
  obtain ⟨r0, r1, r2, r3, r4, r5, r7, sp, pc⟩ := id hm
  have hm2 := setF_ok (s := s) (z := z) (x := x) (p := p) (c := c) hm
  exact ⟨_, _, _, _, 0, joinP hm hh h0 (p6a_0 m g _ _) (by simp [*]) (by decide) (eP (.inl rfl)), joinP hm2 hh h0 (p6a_0 (setF m _ _ _ _ _) g _ _) (by simp [setF, *]) (by decide) (eP (.inl rfl)), ⟨rfl, rfl, rfl, rfl, rfl, rfl, rfl, rfl, rfl, rfl⟩, .inr (.inr (.inr ⟨rfl, ⟨⟨rfl, rfl, rfl, rfl⟩, rfl⟩, ⟨rfl, rfl, rfl, rfl⟩, rfl⟩))⟩
theorem t6b {m : Mc} {g : Nat → Int} {s z x p c : Bool} (hm : m.Ok) (hg : ∀ e, B8 (g e)) (hh : m.halt = false) (h0 : g (ix m.pc) = 107) : Tw 0 m (setF m s z x p c) g := by
  obtain ⟨r0, r1, r2, r3, r4, r5, r7, sp, pc⟩ := id hm
  have hm2 := setF_ok (s := s) (z := z) (x := x) (p := p) (c := c) hm
  exact ⟨_, _, _, _, 0, joinP hm hh h0 (p6b_0 m g _ _) (by simp [*]) (by decide) (eP (.inl rfl)), joinP hm2 hh h0 (p6b_0 (setF m _ _ _ _ _) g _ _) (by simp [setF, *]) (by decide) (eP (.inl rfl)), ⟨rfl, rfl, rfl, rfl, rfl, rfl, rfl, rfl, rfl, rfl⟩, .inr (.inr (.inr ⟨rfl, ⟨⟨rfl, rfl, rfl, rfl⟩, rfl⟩, ⟨rfl, rfl, rfl, rfl⟩, rfl⟩))⟩
theorem t6c {m : Mc} {g : Nat → Int} {s z x p c : Bool} (hm : m.Ok) (hg : ∀ e, B8 (g e)) (hh : m.halt = false) (h0 : g (ix m.pc) = 108) : Tw 0 m (setF m s z x p c) g := by
  obtain ⟨r0, r1, r2, r3, r4, r5, r7, sp, pc⟩ := id hm
  have hm2 := setF_ok (s := s) (z := z) (x := x) (p := p) (c := c) hm
  exact ⟨_, _, _, _, 0, joinP hm hh h0 (p6c_0 m g _ _) (by simp [*]) (by decide) (eP (.inl rfl)), joinP hm2 hh h0 (p6c_0 (setF m _ _ _ _ _) g _ _) (by simp [setF, *]) (by decide) (eP (.inl rfl)), ⟨rfl, rfl, rfl, rfl, rfl, rfl, rfl, rfl, rfl, rfl⟩, .inr (.inr (.inr ⟨rfl, ⟨⟨rfl, rfl, rfl, rfl⟩, rfl⟩, ⟨rfl, rfl, rfl, rfl⟩, rfl⟩))⟩
theorem t6d {m : Mc} {g : Nat → Int} {s z x p c : Bool} (hm : m.Ok) (hg : ∀ e, B8 (g e)) (hh : m.halt = false) (h0 : g (ix m.pc) = 109) : Tw 0 m (setF m s z x p c) g := by
  obtain ⟨r0, r1, r2, r3, r4, r5, r7, sp, pc⟩ := id hm
  have hm2 := setF_ok (s := s) (z := z) (x := x) (p := p) (c := c) hm
  exact ⟨_, _, _, _, 0, joinP hm hh h0 (p6d_0 m g _ _) (by simp [*]) (by decide) (eP (.inl rfl)), joinP hm2 hh h0 (p6d_0 (setF m _ _ _ _ _) g _ _) (by simp [setF, *]) (by decide) (eP (.inl rfl)), ⟨rfl, rfl, rfl, rfl, rfl, rfl, rfl, rfl, rfl, rfl⟩, .inr (.inr (.inr ⟨rfl, ⟨⟨rfl, rfl, rfl, rfl⟩, rfl⟩, ⟨rfl, rfl, rfl, rfl⟩, rfl⟩))⟩
theorem t6e {m : Mc} {g : Nat → Int} {s z x p c : Bool} (hm : m.Ok) (hg : ∀ e, B8 (g e)) (hh : m.halt = false) (h0 : g (ix m.pc) = 110) : Tw 0 m (setF m s z x p c) g := by
  obtain ⟨r0, r1, r2, r3, r4, r5, r7, sp, pc⟩ := id hm
  have hm2 := setF_ok (s := s) (z := z) (x := x) (p := p) (c := c) hm
  exact ⟨_, _, _, _, 0, joinP hm hh h0 (p6e_0 m g _ _) (by simp [*]) (by decide) (eP (.inl rfl)), joinP hm2 hh h0 (p6e_0 (setF m _ _ _ _ _) g _ _) (by simp [setF, *]) (by decide) (eP (.inl rfl)), ⟨rfl, rfl, rfl, rfl, rfl, rfl, rfl, rfl, rfl, rfl⟩, .inr (.inr (.inr ⟨rfl, ⟨⟨rfl, rfl, rfl, rfl⟩, rfl⟩, ⟨rfl, rfl, rfl, rfl⟩, rfl⟩))⟩
theorem t6f {m : Mc} {g : Nat → Int} {s z x p c : Bool} (hm : m.Ok) (hg : ∀ e, B8 (g e)) (hh : m.halt = false) (h0 : g (ix m.pc) = 111) : Tw 0 m (setF m s z x p c) g := by
  obtain ⟨r0, r1, r2, r3, r4, r5, r7, sp, pc⟩ := id hm
  have hm2 := setF_ok (s := s) (z := z) (x := x) (p := p) (c := c) hm
  exact ⟨_, _, _, _, 0, joinP hm hh h0 (p6f_0 m g _ _) (by simp [*]) (by decide) (eP (.inl rfl)), joinP hm2 hh h0 (p6f_0 (setF m _ _ _ _ _) g _ _) (by simp [setF, *]) (by decide) (eP (.inl rfl)), ⟨rfl, rfl, rfl, rfl, rfl, rfl, rfl, rfl, rfl, rfl⟩, .inr (.inr (.inr ⟨rfl, ⟨⟨rfl, rfl, rfl, rfl⟩, rfl⟩, ⟨rfl, rfl, rfl, rfl⟩, rfl⟩))⟩
end Go.Proofs.Ytdjmpilegommlaa
namespace Go.Proofs.Ytdjmpilegommlaa
open Go Go.Ly Go.RowKit
theorem p70_0 (m : Mc) (g : Nat → Int) (b1 b2 : Int) : endsAt [0, 1] (Ly.run cx3 3000 [(26, true), (2, true)] (sP m g 112 b1 b2)) = some (T [(true && lt16 (or16 (w16 (w16 m.r4 * 256)) (w16 m.r5))), bl (ix (or16 (w16 (w16 m.r4 * 256)) (w16 m.r5)))], .int .i64 0, 5, hPm { m with pc := w16 (m.pc + 1) } (M1 g (ix (or16 (w16 (w16 m.r4 * 256)) (w16 m.r5))) (m.r0))) := by kernel_rfl
theorem p71_0 (m : Mc) (g : Nat → Int) (b1 b2 : Int) : endsAt [0, 1] (Ly.run cx3 3000 [(26, true), (2, true)] (sP m g 113 b1 b2)) = some (T [(true && lt16 (or16 (w16 (w16 m.r4 * 256)) (w16 m.r5))), bl (ix (or16 (w16 (w16 m.r4 * 256)) (w16 m.r5)))], .int .i64 0, 5, hPm { m with pc := w16 (m.pc + 1) } (M1 g (ix (or16 (w16 (w16 m.r4 * 256)) (w16 m.r5))) (m.r1))) := by kernel_rfl
theorem p72_0 (m : Mc) (g : Nat → Int) (b1 b2 : Int) : endsAt [0, 1] (Ly.run cx3 3000 [(26, true), (2, true)] (sP m g 114 b1 b2)) = some (T [(true && lt16 (or16 (w16 (w16 m.r4 * 256)) (w16 m.r5))), bl (ix (or16 (w16 (w16 m.r4 * 256)) (w16 m.r5)))], .int .i64 0, 5, hPm { m with pc := w16 (m.pc + 1) } (M1 g (ix (or16 (w16 (w16 m.r4 * 256)) (w16 m.r5))) (m.r2))) := by kernel_rfl
theorem p73_0 (m : Mc) (g : Nat → Int) (b1 b2 : Int) : endsAt [0, 1] (Ly.run cx3 3000 [(26, true), (2, true)] (sP m g 115 b1 b2)) = some (T [(true && lt16 (or16 (w16 (w16 m.r4 * 256)) (w16 m.r5))), bl (ix (or16 (w16 (w16 m.r4 * 256)) (w16 m.r5)))], .int .i64 0, 5, hPm { m with pc := w16 (m.pc + 1) } (M1 g (ix (or16 (w16 (w16 m.r4 * 256)) (w16 m.r5))) (m.r3))) := by kernel_rfl
theorem p74_0 (m : Mc) (g : Nat → Int) (b1 b2 : Int) : endsAt [0, 1] (Ly.run cx3 3000 [(26, true), (2, true)] (sP m g 116 b1 b2)) = some (T [(true && lt16 (or16 (w16 (w16 m.r4 * 256)) (w16 m.r5))), bl (ix (or16 (w16 (w16 m.r4 * 256)) (w16 m.r5)))], .int .i64 0, 5, hPm { m with pc := w16 (m.pc + 1) } (M1 g (ix (or16 (w16 (w16 m.r4 * 256)) (w16 m.r5))) (m.r4))) := by kernel_rfl
theorem p75_0 (m : Mc) (g : Nat → Int) (b1 b2 : Int) : endsAt [0, 1] (Ly.run cx3 3000 [(26, true), (2, true)] (sP m g 117 b1 b2)) = some (T [(true && lt16 (or16 (w16 (w16 m.r4 * 256)) (w16 m.r5))), bl (ix (or16 (w16 (w16 m.r4 * 256)) (w16 m.r5)))], .int .i64 0, 5, hPm { m with pc := w16 (m.pc + 1) } (M1 g (ix (or16 (w16 (w16 m.r4 * 256)) (w16 m.r5))) (m.r5))) := by kernel_rfl
@[simp] def z76_0 (m : Mc) : Mc := { m with halt := true, pc := w16 (m.pc + 1) }
theorem p76_0 (m : Mc) (g : Nat → Int) (b1 b2 : Int) : endsAt [0, 1] (Ly.run cx3 3000 [] (sP m g 118 b1 b2)) = some (T [], .int .i64 0, 5, hPm (z76_0 m) (memL g)) := by kernel_rfl
theorem p77_0 (m : Mc) (g : Nat → Int) (b1 b2 : Int) : endsAt [0, 1] (Ly.run cx3 3000 [(26, true), (2, true)] (sP m g 119 b1 b2)) = some (T [(true && lt16 (or16 (w16 (w16 m.r4 * 256)) (w16 m.r5))), bl (ix (or16 (w16 (w16 m.r4 * 256)) (w16 m.r5)))], .int .i64 0, 5, hPm { m with pc := w16 (m.pc + 1) } (M1 g (ix (or16 (w16 (w16 m.r4 * 256)) (w16 m.r5))) (m.r7))) := by kernel_rfl
@[simp] def z78_0 (m : Mc) : Mc := { m with pc := w16 (m.pc + 1), r7 := m.r0 }
theorem p78_0 (m : Mc) (g : Nat → Int) (b1 b2 : Int) : endsAt [0, 1] (Ly.run cx3 3000 [] (sP m g 120 b1 b2)) = some (T [], .int .i64 0, 5, hPm (z78_0 m) (memL g)) := by kernel_rfl
@[simp] def z79_0 (m : Mc) : Mc := { m with pc := w16 (m.pc + 1), r7 := m.r1 }
theorem p79_0 (m : Mc) (g : Nat → Int) (b1 b2 : Int) : endsAt [0, 1] (Ly.run cx3 3000 [] (sP m g 121 b1 b2)) = some (T [], .int .i64 0, 5, hPm (z79_0 m) (memL g)) := by kernel_rfl
@[simp] def z7a_0 (m : Mc) : Mc := { m with pc := w16 (m.pc + 1), r7 := m.r2 }
theorem p7a_0 (m : Mc) (g : Nat → Int) (b1 b2 : Int) : endsAt [0, 1] (Ly.run cx3 3000 [] (sP m g 122 b1 b2)) = some (T [], .int .i64 0, 5, hPm (z7a_0 m) (memL g)) := by kernel_rfl
@[simp] def z7b_0 (m : Mc) : Mc := { m with pc := w16 (m.pc + 1), r7 := m.r3 }
theorem p7b_0 (m : Mc) (g : Nat → Int) (b1 b2 : Int) : endsAt [0, 1] (Ly.run cx3 3000 [] (sP m g 123 b1 b2)) = some (T [], .int .i64 0, 5, hPm (z7b_0 m) (memL g)) := by kernel_rfl
@[simp] def z7c_0 (m : Mc) : Mc := { m with pc := w16 (m.pc + 1), r7 := m.r4 }
theorem p7c_0 (m : Mc) (g : Nat → Int) (b1 b2 : Int) : endsAt [0, 1] (Ly.run cx3 3000 [] (sP m g 124 b1 b2)) = some (T [], .int .i64 0, 5, hPm (z7c_0 m) (memL g)) := by kernel_rfl
@[simp] def z7d_0 (m : Mc) : Mc := { m with pc := w16 (m.pc + 1), r7 := m.r5 }
theorem p7d_0 (m : Mc) (g : Nat → Int) (b1 b2 : Int) : endsAt [0, 1] (Ly.run cx3 3000 [] (sP m g 125 b1 b2)) = some (T [], .int .i64 0, 5, hPm (z7d_0 m) (memL g)) := by kernel_rfl
@[simp] def z7e_0 (m : Mc) (g : Nat → Int) : Mc := { m with pc := w16 (m.pc + 1), r7 := g (ix (or16 (w16 (w16 m.r4 * 256)) (w16 m.r5))) }
theorem p7e_0 (m : Mc) (g : Nat → Int) (b1 b2 : Int) : endsAt [0, 1] (Ly.run cx3 3000 [(28, true), (0, true)] (sP m g 126 b1 b2)) = some (T [(true && lt16 (or16 (w16 (w16 m.r4 * 256)) (w16 m.r5))), bl (ix (or16 (w16 (w16 m.r4 * 256)) (w16 m.r5)))], .int .i64 0, 5, hPm (z7e_0 m g) (memL g)) := by kernel_rfl
theorem p7f_0 (m : Mc) (g : Nat → Int) (b1 b2 : Int) : endsAt [0, 1] (Ly.run cx3 3000 [] (sP m g 127 b1 b2)) = some (T [], .int .i64 0, 5, hPm { m with pc := w16 (m.pc + 1) } (memL g)) := by kernel_rfl
end Go.Proofs.Ytdjmpilegommlaa
namespace Go.Proofs.Ytdjmpilegommlaa
open Go Go.Ly Go.RowKit
theorem t70 {m : Mc} {g : Nat → Int} {s z x p c : Bool} (hm : m.Ok) (hg : ∀ e, B8 (g e)) (hh : m.halt = false) (h0 : g (ix m.pc) = 112) : Tw 0 m (setF m s z x p c) g := by
  obtain ⟨r0, r1, r2, r3, r4, r5, r7, sp, pc⟩ := id hm
  have hm2 := setF_ok (s := s) (z := z) (x := x) (p := p) (c := c) hm
  exact ⟨_, _, _, _, 0, joinP hm hh h0 (p70_0 m g _ _) (by simp [*]) (by decide) (eP (m1s rfl rfl)), joinP hm2 hh h0 (p70_0 (setF m _ _ _ _ _) g _ _) (by simp [setF, *]) (by decide) (eP (m1s rfl rfl)), ⟨rfl, rfl, rfl, rfl, rfl, rfl, rfl, rfl, rfl, rfl⟩, .inr (.inr (.inr ⟨rfl, ⟨⟨rfl, rfl, rfl, rfl⟩, rfl⟩, ⟨rfl, rfl, rfl, rfl⟩, rfl⟩))⟩
theorem t71 {m : Mc} {g : Nat → Int} {s z x p c : Bool} (hm : m.Ok) (hg : ∀ e, B8 (g e)) (hh : m.halt = false) (h0 : g (ix m.pc) = 113) : Tw 0 m (setF m s z x p c) g := by
  obtain ⟨r0, r1, r2, r3, r4, r5, r7, sp, pc⟩ := id hm
  have hm2 := setF_ok (s := s) (z := z) (x := x) (p := p) (c := c) hm
  exact ⟨_, _, _, _, 0, joinP hm hh h0 (p71_0 m g _ _) (by simp [*]) (by decide) (eP (m1s rfl rfl)), joinP hm2 hh h0 (p71_0 (setF m _ _ _ _ _) g _ _) (by simp [setF, *]) (by decide) (eP (m1s rfl rfl)), ⟨rfl, rfl, rfl, rfl, rfl, rfl, rfl, rfl, rfl, rfl⟩, .inr (.inr (.inr ⟨rfl, ⟨⟨rfl, rfl, rfl, rfl⟩, rfl⟩, ⟨rfl, rfl, rfl, rfl⟩, rfl⟩))⟩
theorem t72 {m : Mc} {g : Nat → Int} {s z x p c : Bool} (hm : m.Ok) (hg : ∀ e, B8 (g e)) (hh : m.halt = false) (h0 : g (ix m.pc) = 114) : Tw 0 m (setF m s z x p c) g := by
  obtain ⟨r0, r1, r2, r3, r4, r5, r7, sp, pc⟩ := id hm
  have hm2 := setF_ok (s := s) (z := z) (x := x) (p := p) (c := c) hm
  exact ⟨_, _, _, _, 0, joinP hm hh h0 (p72_0 m g _ _) (by simp [*]) (by decide) (eP (m1s rfl rfl)), joinP hm2 hh h0 (p72_0 (setF m _ _ _ _ _) g _ _) (by simp [setF, *]) (by decide) (eP (m1s rfl rfl)), ⟨rfl, rfl, rfl, rfl, rfl, rfl, rfl, rfl, rfl, rfl⟩, .inr (.inr (.inr ⟨rfl, ⟨⟨rfl, rfl, rfl, rfl⟩, rfl⟩, ⟨rfl, rfl, rfl, rfl⟩, rfl⟩))⟩
theorem t73 {m : Mc} {g : Nat → Int} {s z x p c : Bool} (hm : m.Ok) (hg : ∀ e, B8 (g e)) (hh : m.halt = false) (h0 : g (ix m.pc) = 115) : Tw 0 m (setF m s z x p c) g := by
  obtain ⟨r0, r1, r2, r3, r4, r5, r7, sp, pc⟩ := id hm
  have hm2 := setF_ok (s := s) (z := z) (x := x) (p := p) (c := c) hm
  exact ⟨_, _, _, _, 0, joinP hm hh h0 (p73_0 m g _ _) (by simp [*]) (by decide) (eP (m1s rfl rfl)), joinP hm2 hh h0 (p73_0 (setF m _ _ _ _ _) g _ _) (by simp [setF, *]) (by decide) (eP (m1s rfl rfl)), ⟨rfl, rfl, rfl, rfl, rfl, rfl, rfl, rfl, rfl, rfl⟩, .inr (.inr (.inr ⟨rfl, ⟨⟨rfl, rfl, rfl, rfl⟩, rfl⟩, ⟨rfl, rfl, rfl, rfl⟩, rfl⟩))⟩
theorem t74 {m : Mc} {g : Nat → Int} {s z x p c : Bool} (hm : m.Ok) (hg : ∀ e, B8 (g e)) (hh : m.halt = false) (h0 : g (ix m.pc) = 116) : Tw 0 m (setF m s z x p c) g := by
  obtain ⟨r0, r1, r2, r3, r4, r5, r7, sp, pc⟩ := id hm
  have hm2 := setF_ok (s := s) (z := z) (x := x) (p := p) (c := c) hm
  exact ⟨_, _, _, _, 0, joinP hm hh h0 (p74_0 m g _ _) (by simp [*]) (by decide) (eP (m1s rfl rfl)), joinP hm2 hh h0 (p74_0 (setF m _ _ _ _ _) g _ _) (by simp [setF, *]) (by decide) (eP (m1s rfl rfl)), ⟨rfl, rfl, rfl, rfl, rfl, rfl, rfl, rfl, rfl, rfl⟩, .inr (.inr (.inr ⟨rfl, ⟨⟨rfl, rfl, rfl, rfl⟩, rfl⟩, ⟨rfl, rfl, rfl, rfl⟩, rfl⟩))⟩
theorem t75 {m : Mc} {g : Nat → Int} {s z x p c : Bool} (hm : m.Ok) (hg : ∀ e, B8 (g e)) (hh : m.halt = false) (h0 : g (ix m.pc) = 117) : Tw 0 m (setF m s z x p c) g := by
  obtain ⟨r0, r1, r2, r3, r4, r5, r7, sp, pc⟩ := id hm
  have hm2 := setF_ok (s := s) (z := z) (x := x) (p := p) (c := c) hm
  exact ⟨_, _, _, _, 0, joinP hm hh h0 (p75_0 m g _ _) (by simp [*]) (by decide) (eP (m1s rfl rfl)), joinP hm2 hh h0 (p75_0 (setF m _ _ _ _ _) g _ _) (by simp [setF, *]) (by decide) (eP (m1s rfl rfl)), ⟨rfl, rfl, rfl, rfl, rfl, rfl, rfl, rfl, rfl, rfl⟩, .inr (.inr (.inr ⟨rfl, ⟨⟨rfl, rfl, rfl, rfl⟩, rfl⟩, ⟨rfl, rfl, rfl, rfl⟩, rfl⟩))⟩
theorem t76 {m : Mc} {g : Nat → Int} {s z x p c : Bool} (hm : m.Ok) (hg : ∀ e, B8 (g e)) (hh : m.halt = false) (h0 : g (ix m.pc) = 118) : Tw 0 m (setF m s z x p c) g := by
  obtain ⟨r0, r1, r2, r3, r4, r5, r7, sp, pc⟩ := id hm
  have hm2 := setF_ok (s := s) (z := z) (x := x) (p := p) (c := c) hm
  exact ⟨_, _, _, _, 0, joinP hm hh h0 (p76_0 m g _ _) (by simp [*]) (by decide) (eP (.inl rfl)), joinP hm2 hh h0 (p76_0 (setF m _ _ _ _ _) g _ _) (by simp [setF, *]) (by decide) (eP (.inl rfl)), ⟨rfl, rfl, rfl, rfl, rfl, rfl, rfl, rfl, rfl, rfl⟩, .inr (.inr (.inr ⟨rfl, ⟨⟨rfl, rfl, rfl, rfl⟩, rfl⟩, ⟨rfl, rfl, rfl, rfl⟩, rfl⟩))⟩
theorem t77 {m : Mc} {g : Nat → Int} {s z x p c : Bool} (hm : m.Ok) (hg : ∀ e, B8 (g e)) (hh : m.halt = false) (h0 : g (ix m.pc) = 119) : Tw 0 m (setF m s z x p c) g := by
  obtain ⟨r0, r1, r2, r3, r4, r5, r7, sp, pc⟩ := id hm
  have hm2 := setF_ok (s := s) (z := z) (x := x) (p := p) (c := c) hm
  exact ⟨_, _, _, _, 0, joinP hm hh h0 (p77_0 m g _ _) (by simp [*]) (by decide) (eP (m1s rfl rfl)), joinP hm2 hh h0 (p77_0 (setF m _ _ _ _ _) g _ _) (by simp [setF, *]) (by decide) (eP (m1s rfl rfl)), ⟨rfl, rfl, rfl, rfl, rfl, rfl, rfl, rfl, rfl, rfl⟩, .inr (.inr (.inr ⟨rfl, ⟨⟨rfl, rfl, rfl, rfl⟩, rfl⟩, ⟨rfl, rfl, rfl, rfl⟩, rfl⟩))⟩
theorem t78 {m : Mc} {g : Nat → Int} {s z x p c : Bool} (hm : m.Ok) (hg : ∀ e, B8 (g e)) (hh : m.halt = false) (h0 : g (ix m.pc) = 120) : Tw 0 m (setF m s z x p c) g := by
  obtain ⟨r0, r1, r2, r3, r4, r5, r7, sp, pc⟩ := id hm
  have hm2 := setF_ok (s := s) (z := z) (x := x) (p := p) (c := c) hm
  exact ⟨_, _, _, _, 0, joinP hm hh h0 (p78_0 m g _ _) (by simp [*]) (by decide) (eP (.inl rfl)), joinP hm2 hh h0 (p78_0 (setF m _ _ _ _ _) g _ _) (by simp [setF, *]) (by decide) (eP (.inl rfl)), ⟨rfl, rfl, rfl, rfl, rfl, rfl, rfl, rfl, rfl, rfl⟩, .inr (.inr (.inr ⟨rfl, ⟨⟨rfl, rfl, rfl, rfl⟩, rfl⟩, ⟨rfl, rfl, rfl, rfl⟩, rfl⟩))⟩
theorem t79 {m : Mc} {g : Nat → Int} {s z x p c : Bool} (hm : m.Ok) (hg : ∀ e, B8 (g e)) (hh : m.halt = false) (h0 : g (ix m.pc) = 121) : Tw 0 m (setF m s z x p c) g := by
  obtain ⟨r0, r1, r2, r3, r4, r5, r7, sp, pc⟩ := id hm
  have hm2 := setF_ok (s := s) (z := z) (x := x) (p := p) (c := c) hm
  exact ⟨_, _, _, _, 0, joinP hm hh h0 (p79_0 m g _ _) (by simp [*]) (by decide) (eP (.inl rfl)), joinP hm2 hh h0 (p79_0 (setF m _ _ _ _ _) g _ _) (by simp [setF, *]) (by decide) (eP (.inl rfl)), ⟨rfl, rfl, rfl, rfl, rfl, rfl, rfl, rfl, rfl, rfl⟩, .inr (.inr (.inr ⟨rfl, ⟨⟨rfl, rfl, rfl, rfl⟩, rfl⟩, ⟨rfl, rfl, rfl, rfl⟩, rfl⟩))⟩
theorem t7a {m : Mc} {g : Nat → Int} {s z x p c : Bool} (hm : m.Ok) (hg : ∀ e, B8 (g e)) (hh : m.halt = false) (h0 : g (ix m.pc) = 122) : Tw 0 m (setF m s z x p c) g := by
  obtain ⟨r0, r1, r2, r3, r4, r5, r7, sp, pc⟩ := id hm
  have hm2 := setF_ok (s := s) (z := z) (x := x) (p := p) (c := c) hm
  exact ⟨_, _, _, _, 0, joinP hm hh h0 (p7a_0 m g _ _) (by simp [*]) (by decide) (eP (.inl rfl)), joinP hm2 hh h0 (p7a_0 (setF m _ _ _ _ _) g _ _) (by simp [setF, *]) (by decide) (eP (.inl rfl)), ⟨rfl, rfl, rfl, rfl, rfl, rfl, rfl, rfl, rfl, rfl⟩, .inr (.inr (.inr ⟨rfl, ⟨⟨rfl, rfl, rfl, rfl⟩, rfl⟩, ⟨rfl, rfl, rfl, rfl⟩, rfl⟩))⟩
theorem t7b {m : Mc} {g : Nat → Int} {s z x p c : Bool} (hm : m.Ok) (hg : ∀ e, B8 (g e)) (hh : m.halt = false) (h0 : g (ix m.pc) = 123) : Tw 0 m (setF m s z x p c) g := by
  obtain ⟨r0, r1, r2, r3, r4, r5, r7, sp, pc⟩ := id hm
  have hm2 := setF_ok (s := s) (z := z) (x := x) (p := p) (c := c) hm
  exact ⟨_, _, _, _, 0, joinP hm hh h0 (p7b_0 m g _ _) (by simp [*]) (by decide) (eP (.inl rfl)), joinP hm2 hh h0 (p7b_0 (setF m _ _ _ _ _) g _ _) (by simp [setF, *]) (by decide) (eP (.inl rfl)), ⟨rfl, rfl, rfl, rfl, rfl, rfl, rfl, rfl, rfl, rfl⟩, .inr (.inr (.inr ⟨rfl, ⟨⟨rfl, rfl, rfl, rfl⟩, rfl⟩, ⟨rfl, rfl, rfl, rfl⟩, rfl⟩))⟩
theorem t7c {m : Mc} {g : Nat → Int} {s z x p c : Bool} (hm : m.Ok) (hg : ∀ e, B8 (g e)) (hh : m.halt = false) (h0 : g (ix m.pc) = 124) : Tw 0 m (setF m s z x p c) g := by
  obtain ⟨r0, r1, r2, r3, r4, r5, r7, sp, pc⟩ := id hm
  have hm2 := setF_ok (s := s) (z := z) (x := x) (p := p) (c := c) hm
  exact ⟨_, _, _, _, 0, joinP hm hh h0 (p7c_0 m g _ _) (by simp [*]) (by decide) (eP (.inl rfl)), joinP hm2 hh h0 (p7c_0 (setF m _ _ _ _ _) g _ _) (by simp [setF, *]) (by decide) (eP (.inl rfl)), ⟨rfl, rfl, rfl, rfl, rfl, rfl, rfl, rfl, rfl, rfl⟩, .inr (.inr (.inr ⟨rfl, ⟨⟨rfl, rfl, rfl, rfl⟩, rfl⟩, ⟨rfl, rfl, rfl, rfl⟩, rfl⟩))⟩
theorem t7d {m : Mc} {g : Nat → Int} {s z x p c : Bool} (hm : m.Ok) (hg : ∀ e, B8 (g e)) (hh : m.halt = false) (h0 : g (ix m.pc) = 125) : Tw 0 m (setF m s z x p c) g := by
  obtain ⟨r0, r1, r2, r3, r4, r5, r7, sp, pc⟩ := id hm
  have hm2 := setF_ok (s := s) (z := z) (x := x) (p := p) (c := c) hm
  exact ⟨_, _, _, _, 0, joinP hm hh h0 (p7d_0 m g _ _) (by simp [*]) (by decide) (eP (.inl rfl)), joinP hm2 hh h0 (p7d_0 (setF m _ _ _ _ _) g _ _) (by simp [setF, *]) (by decide) (eP (.inl rfl)), ⟨rfl, rfl, rfl, rfl, rfl, rfl, rfl, rfl, rfl, rfl⟩, .inr (.inr (.inr ⟨rfl, ⟨⟨rfl, rfl, rfl, rfl⟩, rfl⟩, ⟨rfl, rfl, rfl, rfl⟩, rfl⟩))⟩
theorem t7e {m : Mc} {g : Nat → Int} {s z x p c : Bool} (hm : m.Ok) (hg : ∀ e, B8 (g e)) (hh : m.halt = false) (h0 : g (ix m.pc) = 126) : Tw 0 m (setF m s z x p c) g := by
  obtain ⟨r0, r1, r2, r3, r4, r5, r7, sp, pc⟩ := id hm
  have hm2 := setF_ok (s := s) (z := z) (x := x) (p := p) (c := c) hm
  exact ⟨_, _, _, _, 0, joinP hm hh h0 (p7e_0 m g _ _) (by simp [*]) (by decide) (eP (.inl rfl)), joinP hm2 hh h0 (p7e_0 (setF m _ _ _ _ _) g _ _) (by simp [setF, *]) (by decide) (eP (.inl rfl)), ⟨rfl, rfl, rfl, rfl, rfl, rfl, rfl, rfl, rfl, rfl⟩, .inr (.inr (.inr ⟨rfl, ⟨⟨rfl, rfl, rfl, rfl⟩, rfl⟩, ⟨rfl, rfl, rfl, rfl⟩, rfl⟩))⟩
theorem t7f {m : Mc} {g : Nat → Int} {s z x p c : Bool} (hm : m.Ok) (hg : ∀ e, B8 (g e)) (hh : m.halt = false) (h0 : g (ix m.pc) = 127) : Tw 0 m (setF m s z x p c) g := by
  obtain ⟨r0, r1, r2, r3, r4, r5, r7, sp, pc⟩ := id hm
  have hm2 := setF_ok (s := s) (z := z) (x := x) (p := p) (c := c) hm
  exact ⟨_, _, _, _, 0, joinP hm hh h0 (p7f_0 m g _ _) (by simp [*]) (by decide) (eP (.inl rfl)), joinP hm2 hh h0 (p7f_0 (setF m _ _ _ _ _) g _ _) (by simp [setF, *]) (by decide) (eP (.inl rfl)), ⟨rfl, rfl, rfl, rfl, rfl, rfl, rfl, rfl, rfl, rfl⟩, .inr (.inr (.inr ⟨rfl, ⟨⟨rfl, rfl, rfl, rfl⟩, rfl⟩, ⟨rfl, rfl, rfl, rfl⟩, rfl⟩))⟩
end Go.Proofs.Ytdjmpilegommlaa
namespace Go.Proofs.Ytdjmpilegommlaa
open Go Go.Ly Go.RowKit
@[simp] def z80_0 (m : Mc) : Mc := { m with fc := decide (255 < m.r7 + m.r0 + 0), fp := par ((m.r7 + m.r0 + 0) % 256), fs := decide (128 ≤ (m.r7 + m.r0 + 0) % 256), fx := decide (15 < m.r7 % 16 + m.r0 % 16 + 0), fz := (m.r7 + m.r0 + 0) % 256 == 0, pc := w16 (m.pc + 1), r7 := (m.r7 + m.r0 + 0) % 256 }
theorem p80_0 (m : Mc) (g : Nat → Int) (b1 b2 : Int) : endsAt [0, 1] (Ly.run cx3 3000 [(22, true), (5, true)] (sP m g 128 b1 b2)) = some (T [m.fc == true, inb m.r7 && inb m.r0], .int .i64 0, 5, hPm (z80_0 m) (memL g)) := by kernel_rfl
theorem p80_1 (m : Mc) (g : Nat → Int) (b1 b2 : Int) : endsAt [0, 1] (Ly.run cx3 3000 [(22, false), (5, true)] (sP m g 128 b1 b2)) = some ([(m.fc == true, false), (inb m.r7 && inb m.r0, true)], .int .i64 0, 5, hPm (z80_0 m) (memL g)) := by kernel_rfl
@[simp] def z81_0 (m : Mc) : Mc := { m with fc := decide (255 < m.r7 + m.r1 + 0), fp := par ((m.r7 + m.r1 + 0) % 256), fs := decide (128 ≤ (m.r7 + m.r1 + 0) % 256), fx := decide (15 < m.r7 % 16 + m.r1 % 16 + 0), fz := (m.r7 + m.r1 + 0) % 256 == 0, pc := w16 (m.pc + 1), r7 := (m.r7 + m.r1 + 0) % 256 }
theorem p81_0 (m : Mc) (g : Nat → Int) (b1 b2 : Int) : endsAt [0, 1] (Ly.run cx3 3000 [(22, true), (5, true)] (sP m g 129 b1 b2)) = some (T [m.fc == true, inb m.r7 && inb m.r1], .int .i64 0, 5, hPm (z81_0 m) (memL g)) := by kernel_rfl
theorem p81_1 (m : Mc) (g : Nat → Int) (b1 b2 : Int) : endsAt [0, 1] (Ly.run cx3 3000 [(22, false), (5, true)] (sP m g 129 b1 b2)) = some ([(m.fc == true, false), (inb m.r7 && inb m.r1, true)], .int .i64 0, 5, hPm (z81_0 m) (memL g)) := by kernel_rfl
@[simp] def z82_0 (m : Mc) : Mc := { m with fc := decide (255 < m.r7 + m.r2 + 0), fp := par ((m.r7 + m.r2 + 0) % 256), fs := decide (128 ≤ (m.r7 + m.r2 + 0) % 256), fx := decide (15 < m.r7 % 16 + m.r2 % 16 + 0), fz := (m.r7 + m.r2 + 0) % 256 == 0, pc := w16 (m.pc + 1), r7 := (m.r7 + m.r2 + 0) % 256 }
theorem p82_0 (m : Mc) (g : Nat → Int) (b1 b2 : Int) : endsAt [0, 1] (Ly.run cx3 3000 [(22, true), (5, true)] (sP m g 130 b1 b2)) = some (T [m.fc == true, inb m.r7 && inb m.r2], .int .i64 0, 5, hPm (z82_0 m) (memL g)) := by kernel_rfl
theorem p82_1 (m : Mc) (g : Nat → Int) (b1 b2 : Int) : endsAt [0, 1] (Ly.run cx3 3000 [(22, false), (5, true)] (sP m g 130 b1 b2)) = some ([(m.fc == true, false), (inb m.r7 && inb m.r2, true)], .int .i64 0, 5, hPm (z82_0 m) (memL g)) := by kernel_rfl
@[simp] def z83_0 (m : Mc) : Mc := { m with fc := decide (255 < m.r7 + m.r3 + 0), fp := par ((m.r7 + m.r3 + 0) % 256), fs := decide (128 ≤ (m.r7 + m.r3 + 0) % 256), fx := decide (15 < m.r7 % 16 + m.r3 % 16 + 0), fz := (m.r7 + m.r3 + 0) % 256 == 0, pc := w16 (m.pc + 1), r7 := (m.r7 + m.r3 + 0) % 256 }
theorem p83_0 (m : Mc) (g : Nat → Int) (b1 b2 : Int) : endsAt [0, 1] (Ly.run cx3 3000 [(22, true), (5, true)] (sP m g 131 b1 b2)) = some (T [m.fc == true, inb m.r7 && inb m.r3], .int .i64 0, 5, hPm (z83_0 m) (memL g)) := by kernel_rfl
theorem p83_1 (m : Mc) (g : Nat → Int) (b1 b2 : Int) : endsAt [0, 1] (Ly.run cx3 3000 [(22, false), (5, true)] (sP m g 131 b1 b2)) = some ([(m.fc == true, false), (inb m.r7 && inb m.r3, true)], .int .i64 0, 5, hPm (z83_0 m) (memL g)) := by kernel_rfl
@[simp] def z84_0 (m : Mc) : Mc := { m with fc := decide (255 < m.r7 + m.r4 + 0), fp := par ((m.r7 + m.r4 + 0) % 256), fs := decide (128 ≤ (m.r7 + m.r4 + 0) % 256), fx := decide (15 < m.r7 % 16 + m.r4 % 16 + 0), fz := (m.r7 + m.r4 + 0) % 256 == 0, pc := w16 (m.pc + 1), r7 := (m.r7 + m.r4 + 0) % 256 }
theorem p84_0 (m : Mc) (g : Nat → Int) (b1 b2 : Int) : endsAt [0, 1] (Ly.run cx3 3000 [(22, true), (5, true)] (sP m g 132 b1 b2)) = some (T [m.fc == true, inb m.r7 && inb m.r4], .int .i64 0, 5, hPm (z84_0 m) (memL g)) := by kernel_rfl
theorem p84_1 (m : Mc) (g : Nat → Int) (b1 b2 : Int) : endsAt [0, 1] (Ly.run cx3 3000 [(22, false), (5, true)] (sP m g 132 b1 b2)) = some ([(m.fc == true, false), (inb m.r7 && inb m.r4, true)], .int .i64 0, 5, hPm (z84_0 m) (memL g)) := by kernel_rfl
@[simp] def z85_0 (m : Mc) : Mc := { m with fc := decide (255 < m.r7 + m.r5 + 0), fp := par ((m.r7 + m.r5 + 0) % 256), fs := decide (128 ≤ (m.r7 + m.r5 + 0) % 256), fx := decide (15 < m.r7 % 16 + m.r5 % 16 + 0), fz := (m.r7 + m.r5 + 0) % 256 == 0, pc := w16 (m.pc + 1), r7 := (m.r7 + m.r5 + 0) % 256 }
theorem p85_0 (m : Mc) (g : Nat → Int) (b1 b2 : Int) : endsAt [0, 1] (Ly.run cx3 3000 [(22, true), (5, true)] (sP m g 133 b1 b2)) = some (T [m.fc == true, inb m.r7 && inb m.r5], .int .i64 0, 5, hPm (z85_0 m) (memL g)) := by kernel_rfl
theorem p85_1 (m : Mc) (g : Nat → Int) (b1 b2 : Int) : endsAt [0, 1] (Ly.run cx3 3000 [(22, false), (5, true)] (sP m g 133 b1 b2)) = some ([(m.fc == true, false), (inb m.r7 && inb m.r5, true)], .int .i64 0, 5, hPm (z85_0 m) (memL g)) := by kernel_rfl
@[simp] def z86_0 (m : Mc) (g : Nat → Int) : Mc := { m with fc := decide (255 < m.r7 + g (ix (or16 (w16 (w16 m.r4 * 256)) (w16 m.r5))) + 0), fp := par ((m.r7 + g (ix (or16 (w16 (w16 m.r4 * 256)) (w16 m.r5))) + 0) % 256), fs := decide (128 ≤ (m.r7 + g (ix (or16 (w16 (w16 m.r4 * 256)) (w16 m.r5))) + 0) % 256), fx := decide (15 < m.r7 % 16 + g (ix (or16 (w16 (w16 m.r4 * 256)) (w16 m.r5))) % 16 + 0), fz := (m.r7 + g (ix (or16 (w16 (w16 m.r4 * 256)) (w16 m.r5))) + 0) % 256 == 0, pc := w16 (m.pc + 1), r7 := (m.r7 + g (ix (or16 (w16 (w16 m.r4 * 256)) (w16 m.r5))) + 0) % 256 }
theorem p86_0 (m : Mc) (g : Nat → Int) (b1 b2 : Int) : endsAt [0, 1] (Ly.run cx3 3000 [(28, true), (0, true), (13, true), (0, true), (1, true), (5, true)] (sP m g 134 b1 b2)) = some (T [(true && lt16 (or16 (w16 (w16 m.r4 * 256)) (w16 m.r5))), bl (ix (or16 (w16 (w16 m.r4 * 256)) (w16 m.r5))), (true && lt16 (or16 (w16 (w16 m.r4 * 256)) (w16 m.r5))), bl (ix (or16 (w16 (w16 m.r4 * 256)) (w16 m.r5))), m.fc == true, inb m.r7 && inb (g (ix (or16 (w16 (w16 m.r4 * 256)) (w16 m.r5))))], .int .i64 0, 5, hPm (z86_0 m g) (memL g)) := by kernel_rfl
theorem p86_1 (m : Mc) (g : Nat → Int) (b1 b2 : Int) : endsAt [0, 1] (Ly.run cx3 3000 [(28, true), (0, true), (13, true), (0, true), (1, false), (5, true)] (sP m g 134 b1 b2)) = some ([((true && lt16 (or16 (w16 (w16 m.r4 * 256)) (w16 m.r5))), true), (bl (ix (or16 (w16 (w16 m.r4 * 256)) (w16 m.r5))), true), ((true && lt16 (or16 (w16 (w16 m.r4 * 256)) (w16 m.r5))), true), (bl (ix (or16 (w16 (w16 m.r4 * 256)) (w16 m.r5))), true), (m.fc == true, false), (inb m.r7 && inb (g (ix (or16 (w16 (w16 m.r4 * 256)) (w16 m.r5)))), true)], .int .i64 0, 5, hPm (z86_0 m g) (memL g)) := by kernel_rfl
@[simp] def z87_0 (m : Mc) : Mc := { m with fc := decide (255 < m.r7 + m.r7 + 0), fp := par ((m.r7 + m.r7 + 0) % 256), fs := decide (128 ≤ (m.r7 + m.r7 + 0) % 256), fx := decide (15 < m.r7 % 16 + m.r7 % 16 + 0), fz := (m.r7 + m.r7 + 0) % 256 == 0, pc := w16 (m.pc + 1), r7 := (m.r7 + m.r7 + 0) % 256 }
theorem p87_0 (m : Mc) (g : Nat → Int) (b1 b2 : Int) : endsAt [0, 1] (Ly.run cx3 3000 [(22, true), (5, true)] (sP m g 135 b1 b2)) = some (T [m.fc == true, inb m.r7 && inb m.r7], .int .i64 0, 5, hPm (z87_0 m) (memL g)) := by kernel_rfl
theorem p87_1 (m : Mc) (g : Nat → Int) (b1 b2 : Int) : endsAt [0, 1] (Ly.run cx3 3000 [(22, false), (5, true)] (sP m g 135 b1 b2)) = some ([(m.fc == true, false), (inb m.r7 && inb m.r7, true)], .int .i64 0, 5, hPm (z87_0 m) (memL g)) := by kernel_rfl
@[simp] def z88_0 (m : Mc) : Mc := { m with fc := decide (255 < m.r7 + m.r0 + 1), fp := par ((m.r7 + m.r0 + 1) % 256), fs := decide (128 ≤ (m.r7 + m.r0 + 1) % 256), fx := decide (15 < m.r7 % 16 + m.r0 % 16 + 1), fz := (m.r7 + m.r0 + 1) % 256 == 0, pc := w16 (m.pc + 1), r7 := (m.r7 + m.r0 + 1) % 256 }
@[simp] def z88_1 (m : Mc) : Mc := { m with fc := decide (255 < m.r7 + m.r0 + 0), fp := par ((m.r7 + m.r0 + 0) % 256), fs := decide (128 ≤ (m.r7 + m.r0 + 0) % 256), fx := decide (15 < m.r7 % 16 + m.r0 % 16 + 0), fz := (m.r7 + m.r0 + 0) % 256 == 0, pc := w16 (m.pc + 1), r7 := (m.r7 + m.r0 + 0) % 256 }
theorem p88_0 (m : Mc) (g : Nat → Int) (b1 b2 : Int) : endsAt [0, 1] (Ly.run cx3 3000 [(22, true), (5, true)] (sP m g 136 b1 b2)) = some (T [m.fc == true, inb m.r7 && inb m.r0], .int .i64 0, 5, hPm (z88_0 m) (memL g)) := by kernel_rfl
theorem p88_1 (m : Mc) (g : Nat → Int) (b1 b2 : Int) : endsAt [0, 1] (Ly.run cx3 3000 [(22, false), (5, true)] (sP m g 136 b1 b2)) = some ([(m.fc == true, false), (inb m.r7 && inb m.r0, true)], .int .i64 0, 5, hPm (z88_1 m) (memL g)) := by kernel_rfl
@[simp] def z89_0 (m : Mc) : Mc := { m with fc := decide (255 < m.r7 + m.r1 + 1), fp := par ((m.r7 + m.r1 + 1) % 256), fs := decide (128 ≤ (m.r7 + m.r1 + 1) % 256), fx := decide (15 < m.r7 % 16 + m.r1 % 16 + 1), fz := (m.r7 + m.r1 + 1) % 256 == 0, pc := w16 (m.pc + 1), r7 := (m.r7 + m.r1 + 1) % 256 }
@[simp] def z89_1 (m : Mc) : Mc := { m with fc := decide (255 < m.r7 + m.r1 + 0), fp := par ((m.r7 + m.r1 + 0) % 256), fs := decide (128 ≤ (m.r7 + m.r1 + 0) % 256), fx := decide (15 < m.r7 % 16 + m.r1 % 16 + 0), fz := (m.r7 + m.r1 + 0) % 256 == 0, pc := w16 (m.pc + 1), r7 := (m.r7 + m.r1 + 0) % 256 }
theorem p89_0 (m : Mc) (g : Nat → Int) (b1 b2 : Int) : endsAt [0, 1] (Ly.run cx3 3000 [(22, true), (5, true)] (sP m g 137 b1 b2)) = some (T [m.fc == true, inb m.r7 && inb m.r1], .int .i64 0, 5, hPm (z89_0 m) (memL g)) := by kernel_rfl
theorem p89_1 (m : Mc) (g : Nat → Int) (b1 b2 : Int) : endsAt [0, 1] (Ly.run cx3 3000 [(22, false), (5, true)] (sP m g 137 b1 b2)) = some ([(m.fc == true, false), (inb m.r7 && inb m.r1, true)], .int .i64 0, 5, hPm (z89_1 m) (memL g)) := by kernel_rfl
@[simp] def z8a_0 (m : Mc) : Mc := { m with fc := decide (255 < m.r7 + m.r2 + 1), fp := par ((m.r7 + m.r2 + 1) % 256), fs := decide (128 ≤ (m.r7 + m.r2 + 1) % 256), fx := decide (15 < m.r7 % 16 + m.r2 % 16 + 1), fz := (m.r7 + m.r2 + 1) % 256 == 0, pc := w16 (m.pc + 1), r7 := (m.r7 + m.r2 + 1) % 256 }
@[simp] def z8a_1 (m : Mc) : Mc := { m with fc := decide (255 < m.r7 + m.r2 + 0), fp := par ((m.r7 + m.r2 + 0) % 256), fs := decide (128 ≤ (m.r7 + m.r2 + 0) % 256), fx := decide (15 < m.r7 % 16 + m.r2 % 16 + 0), fz := (m.r7 + m.r2 + 0) % 256 == 0, pc := w16 (m.pc + 1), r7 := (m.r7 + m.r2 + 0) % 256 }
theorem p8a_0 (m : Mc) (g : Nat → Int) (b1 b2 : Int) : endsAt [0, 1] (Ly.run cx3 3000 [(22, true), (5, true)] (sP m g 138 b1 b2)) = some (T [m.fc == true, inb m.r7 && inb m.r2], .int .i64 0, 5, hPm (z8a_0 m) (memL g)) := by kernel_rfl
theorem p8a_1 (m : Mc) (g : Nat → Int) (b1 b2 : Int) : endsAt [0, 1] (Ly.run cx3 3000 [(22, false), (5, true)] (sP m g 138 b1 b2)) = some ([(m.fc == true, false), (inb m.r7 && inb m.r2, true)], .int .i64 0, 5, hPm (z8a_1 m) (memL g)) := by kernel_rfl
@[simp] def z8b_0 (m : Mc) : Mc := { m with fc := decide (255 < m.r7 + m.r3 + 1), fp := par ((m.r7 + m.r3 + 1) % 256), fs := decide (128 ≤ (m.r7 + m.r3 + 1) % 256), fx := decide (15 < m.r7 % 16 + m.r3 % 16 + 1), fz := (m.r7 + m.r3 + 1) % 256 == 0, pc := w16 (m.pc + 1), r7 := (m.r7 + m.r3 + 1) % 256 }
@[simp] def z8b_1 (m : Mc) : Mc := { m with fc := decide (255 < m.r7 + m.r3 + 0), fp := par ((m.r7 + m.r3 + 0) % 256), fs := decide (128 ≤ (m.r7 + m.r3 + 0) % 256), fx := decide (15 < m.r7 % 16 + m.r3 % 16 + 0), fz := (m.r7 + m.r3 + 0) % 256 == 0, pc := w16 (m.pc + 1), r7 := (m.r7 + m.r3 + 0) % 256 }
theorem p8b_0 (m : Mc) (g : Nat → Int) (b1 b2 : Int) : endsAt [0, 1] (Ly.run cx3 3000 [(22, true), (5, true)] (sP m g 139 b1 b2)) = some (T [m.fc == true, inb m.r7 && inb m.r3], .int .i64 0, 5, hPm (z8b_0 m) (memL g)) := by kernel_rfl
theorem p8b_1 (m : Mc) (g : Nat → Int) (b1 b2 : Int) : endsAt [0, 1] (Ly.run cx3 3000 [(22, false), (5, true)] (sP m g 139 b1 b2)) = some ([(m.fc == true, false), (inb m.r7 && inb m.r3, true)], .int .i64 0, 5, hPm (z8b_1 m) (memL g)) := by kernel_rfl
@[simp] def z8c_0 (m : Mc) : Mc := { m with fc := decide (255 < m.r7 + m.r4 + 1), fp := par ((m.r7 + m.r4 + 1) % 256), fs := decide (128 ≤ (m.r7 + m.r4 + 1) % 256), fx := decide (15 < m.r7 % 16 + m.r4 % 16 + 1), fz := (m.r7 + m.r4 + 1) % 256 == 0, pc := w16 (m.pc + 1), r7 := (m.r7 + m.r4 + 1) % 256 }
@[simp] def z8c_1 (m : Mc) : Mc := { m with fc := decide (255 < m.r7 + m.r4 + 0), fp := par ((m.r7 + m.r4 + 0) % 256), fs := decide (128 ≤ (m.r7 + m.r4 + 0) % 256), fx := decide (15 < m.r7 % 16 + m.r4 % 16 + 0), fz := (m.r7 + m.r4 + 0) % 256 == 0, pc := w16 (m.pc + 1), r7 := (m.r7 + m.r4 + 0) % 256 }
theorem p8c_0 (m : Mc) (g : Nat → Int) (b1 b2 : Int) : endsAt [0, 1] (Ly.run cx3 3000 [(22, true), (5, true)] (sP m g 140 b1 b2)) = some (T [m.fc == true, inb m.r7 && inb m.r4], .int .i64 0, 5, hPm (z8c_0 m) (memL g)) := by kernel_rfl
theorem p8c_1 (m : Mc) (g : Nat → Int) (b1 b2 : Int) : endsAt [0, 1] (Ly.run cx3 3000 [(22, false), (5, true)] (sP m g 140 b1 b2)) = some ([(m.fc == true, false), (inb m.r7 && inb m.r4, true)], .int .i64 0, 5, hPm (z8c_1 m) (memL g)) := by kernel_rfl
@[simp] def z8d_0 (m : Mc) : Mc := { m with fc := decide (255 < m.r7 + m.r5 + 1), fp := par ((m.r7 + m.r5 + 1) % 256), fs := decide (128 ≤ (m.r7 + m.r5 + 1) % 256), fx := decide (15 < m.r7 % 16 + m.r5 % 16 + 1), fz := (m.r7 + m.r5 + 1) % 256 == 0, pc := w16 (m.pc + 1), r7 := (m.r7 + m.r5 + 1) % 256 }
@[simp] def z8d_1 (m : Mc) : Mc := { m with fc := decide (255 < m.r7 + m.r5 + 0), fp := par ((m.r7 + m.r5 + 0) % 256), fs := decide (128 ≤ (m.r7 + m.r5 + 0) % 256), fx := decide (15 < m.r7 % 16 + m.r5 % 16 + 0), fz := (m.r7 + m.r5 + 0) % 256 == 0, pc := w16 (m.pc + 1), r7 := (m.r7 + m.r5 + 0) % 256 }
theorem p8d_0 (m : Mc) (g : Nat → Int) (b1 b2 : Int) : endsAt [0, 1] (Ly.run cx3 3000 [(22, true), (5, true)] (sP m g 141 b1 b2)) = some (T [m.fc == true, inb m.r7 && inb m.r5], .int .i64 0, 5, hPm (z8d_0 m) (memL g)) := by kernel_rfl
theorem p8d_1 (m : Mc) (g : Nat → Int) (b1 b2 : Int) : endsAt [0, 1] (Ly.run cx3 3000 [(22, false), (5, true)] (sP m g 141 b1 b2)) = some ([(m.fc == true, false), (inb m.r7 && inb m.r5, true)], .int .i64 0, 5, hPm (z8d_1 m) (memL g)) := by kernel_rfl
@[simp] def z8e_0 (m : Mc) (g : Nat → Int) : Mc := { m with fc := decide (255 < m.r7 + g (ix (or16 (w16 (w16 m.r4 * 256)) (w16 m.r5))) + 1), fp := par ((m.r7 + g (ix (or16 (w16 (w16 m.r4 * 256)) (w16 m.r5))) + 1) % 256), fs := decide (128 ≤ (m.r7 + g (ix (or16 (w16 (w16 m.r4 * 256)) (w16 m.r5))) + 1) % 256), fx := decide (15 < m.r7 % 16 + g (ix (or16 (w16 (w16 m.r4 * 256)) (w16 m.r5))) % 16 + 1), fz := (m.r7 + g (ix (or16 (w16 (w16 m.r4 * 256)) (w16 m.r5))) + 1) % 256 == 0, pc := w16 (m.pc + 1), r7 := (m.r7 + g (ix (or16 (w16 (w16 m.r4 * 256)) (w16 m.r5))) + 1) % 256 }
@[simp] def z8e_1 (m : Mc) (g : Nat → Int) : Mc := { m with fc := decide (255 < m.r7 + g (ix (or16 (w16 (w16 m.r4 * 256)) (w16 m.r5))) + 0), fp := par ((m.r7 + g (ix (or16 (w16 (w16 m.r4 * 256)) (w16 m.r5))) + 0) % 256), fs := decide (128 ≤ (m.r7 + g (ix (or16 (w16 (w16 m.r4 * 256)) (w16 m.r5))) + 0) % 256), fx := decide (15 < m.r7 % 16 + g (ix (or16 (w16 (w16 m.r4 * 256)) (w16 m.r5))) % 16 + 0), fz := (m.r7 + g (ix (or16 (w16 (w16 m.r4 * 256)) (w16 m.r5))) + 0) % 256 == 0, pc := w16 (m.pc + 1), r7 := (m.r7 + g (ix (or16 (w16 (w16 m.r4 * 256)) (w16 m.r5))) + 0) % 256 }
theorem p8e_0 (m : Mc) (g : Nat → Int) (b1 b2 : Int) : endsAt [0, 1] (Ly.run cx3 3000 [(28, true), (0, true), (13, true), (0, true), (1, true), (5, true)] (sP m g 142 b1 b2)) = some (T [(true && lt16 (or16 (w16 (w16 m.r4 * 256)) (w16 m.r5))), bl (ix (or16 (w16 (w16 m.r4 * 256)) (w16 m.r5))), (true && lt16 (or16 (w16 (w16 m.r4 * 256)) (w16 m.r5))), bl (ix (or16 (w16 (w16 m.r4 * 256)) (w16 m.r5))), m.fc == true, inb m.r7 && inb (g (ix (or16 (w16 (w16 m.r4 * 256)) (w16 m.r5))))], .int .i64 0, 5, hPm (z8e_0 m g) (memL g)) := by kernel_rfl
theorem p8e_1 (m : Mc) (g : Nat → Int) (b1 b2 : Int) : endsAt [0, 1] (Ly.run cx3 3000 [(28, true), (0, true), (13, true), (0, true), (1, false), (5, true)] (sP m g 142 b1 b2)) = some ([((true && lt16 (or16 (w16 (w16 m.r4 * 256)) (w16 m.r5))), true), (bl (ix (or16 (w16 (w16 m.r4 * 256)) (w16 m.r5))), true), ((true && lt16 (or16 (w16 (w16 m.r4 * 256)) (w16 m.r5))), true), (bl (ix (or16 (w16 (w16 m.r4 * 256)) (w16 m.r5))), true), (m.fc == true, false), (inb m.r7 && inb (g (ix (or16 (w16 (w16 m.r4 * 256)) (w16 m.r5)))), true)], .int .i64 0, 5, hPm (z8e_1 m g) (memL g)) := by kernel_rfl
@[simp] def z8f_0 (m : Mc) : Mc := { m with fc := decide (255 < m.r7 + m.r7 + 1), fp := par ((m.r7 + m.r7 + 1) % 256), fs := decide (128 ≤ (m.r7 + m.r7 + 1) % 256), fx := decide (15 < m.r7 % 16 + m.r7 % 16 + 1), fz := (m.r7 + m.r7 + 1) % 256 == 0, pc := w16 (m.pc + 1), r7 := (m.r7 + m.r7 + 1) % 256 }
@[simp] def z8f_1 (m : Mc) : Mc := { m with fc := decide (255 < m.r7 + m.r7 + 0), fp := par ((m.r7 + m.r7 + 0) % 256), fs := decide (128 ≤ (m.r7 + m.r7 + 0) % 256), fx := decide (15 < m.r7 % 16 + m.r7 % 16 + 0), fz := (m.r7 + m.r7 + 0) % 256 == 0, pc := w16 (m.pc + 1), r7 := (m.r7 + m.r7 + 0) % 256 }
theorem p8f_0 (m : Mc) (g : Nat → Int) (b1 b2 : Int) : endsAt [0, 1] (Ly.run cx3 3000 [(22, true), (5, true)] (sP m g 143 b1 b2)) = some (T [m.fc == true, inb m.r7 && inb m.r7], .int .i64 0, 5, hPm (z8f_0 m) (memL g)) := by kernel_rfl
theorem p8f_1 (m : Mc) (g : Nat → Int) (b1 b2 : Int) : endsAt [0, 1] (Ly.run cx3 3000 [(22, false), (5, true)] (sP m g 143 b1 b2)) = some ([(m.fc == true, false), (inb m.r7 && inb m.r7, true)], .int .i64 0, 5, hPm (z8f_1 m) (memL g)) := by kernel_rfl
end Go.Proofs.Ytdjmpilegommlaa
namespace Go.Proofs.Ytdjmpilegommlaa
open Go Go.Ly Go.RowKit
theorem t80 {m : Mc} {g : Nat → Int} {s z x p c : Bool} (hm : m.Ok) (hg : ∀ e, B8 (g e)) (hh : m.halt = false) (h0 : g (ix m.pc) = 128) : Tw 31 m (setF m s z x p c) g := by
  obtain ⟨r0, r1, r2, r3, r4, r5, r7, sp, pc⟩ := id hm
  have hm2 := setF_ok (s := s) (z := z) (x := x) (p := p) (c := c) hm
  rcases Bool.eq_false_or_eq_true m.fc with hf | hf <;> cases c
  · exact ⟨_, _, _, _, 0, joinP hm hh h0 (p80_0 m g _ _) (by simp [*]) (by decide) (eP (.inl rfl)), joinP hm2 hh h0 (p80_1 (setF m _ _ _ _ _) g _ _) (by simp [setF, *]) (by decide) (eP (.inl rfl)), ⟨rfl, rfl, rfl, rfl, rfl, rfl, rfl, rfl, rfl, rfl⟩, .inl ⟨rfl, ⟨rfl, rfl, rfl, rfl⟩, rfl⟩⟩
  · exact ⟨_, _, _, _, 0, joinP hm hh h0 (p80_0 m g _ _) (by simp [*]) (by decide) (eP (.inl rfl)), joinP hm2 hh h0 (p80_0 (setF m _ _ _ _ _) g _ _) (by simp [setF, *]) (by decide) (eP (.inl rfl)), ⟨rfl, rfl, rfl, rfl, rfl, rfl, rfl, rfl, rfl, rfl⟩, .inl ⟨rfl, ⟨rfl, rfl, rfl, rfl⟩, rfl⟩⟩
  · exact ⟨_, _, _, _, 0, joinP hm hh h0 (p80_1 m g _ _) (by simp [*]) (by decide) (eP (.inl rfl)), joinP hm2 hh h0 (p80_1 (setF m _ _ _ _ _) g _ _) (by simp [setF, *]) (by decide) (eP (.inl rfl)), ⟨rfl, rfl, rfl, rfl, rfl, rfl, rfl, rfl, rfl, rfl⟩, .inl ⟨rfl, ⟨rfl, rfl, rfl, rfl⟩, rfl⟩⟩
  · exact ⟨_, _, _, _, 0, joinP hm hh h0 (p80_1 m g _ _) (by simp [*]) (by decide) (eP (.inl rfl)), joinP hm2 hh h0 (p80_0 (setF m _ _ _ _ _) g _ _) (by simp [setF, *]) (by decide) (eP (.inl rfl)), ⟨rfl, rfl, rfl, rfl, rfl, rfl, rfl, rfl, rfl, rfl⟩, .inl ⟨rfl, ⟨rfl, rfl, rfl, rfl⟩, rfl⟩⟩
theorem t81 {m : Mc} {g : Nat → Int} {s z x p c : Bool} (hm : m.Ok) (hg : ∀ e, B8 (g e)) (hh : m.halt = false) (h0 : g (ix m.pc) = 129) : Tw 31 m (setF m s z x p c) g := by
  obtain ⟨r0, r1, r2, r3, r4, r5, r7, sp, pc⟩ := id hm
  have hm2 := setF_ok (s := s) (z := z) (x := x) (p := p) (c := c) hm
  rcases Bool.eq_false_or_eq_true m.fc with hf | hf <;> cases c
  · exact ⟨_, _, _, _, 0, joinP hm hh h0 (p81_0 m g _ _) (by simp [*]) (by decide) (eP (.inl rfl)), joinP hm2 hh h0 (p81_1 (setF m _ _ _ _ _) g _ _) (by simp [setF, *]) (by decide) (eP (.inl rfl)), ⟨rfl, rfl, rfl, rfl, rfl, rfl, rfl, rfl, rfl, rfl⟩, .inl ⟨rfl, ⟨rfl, rfl, rfl, rfl⟩, rfl⟩⟩
  · exact ⟨_, _, _, _, 0, joinP hm hh h0 (p81_0 m g _ _) (by simp [*]) (by decide) (eP (.inl rfl)), joinP hm2 hh h0 (p81_0 (setF m _ _ _ _ _) g _ _) (by simp [setF, *]) (by decide) (eP (.inl rfl)), ⟨rfl, rfl, rfl, rfl, rfl, rfl, rfl, rfl, rfl, rfl⟩, .inl ⟨rfl, ⟨rfl, rfl, rfl, rfl⟩, rfl⟩⟩
  · exact ⟨_, _, _, _, 0, joinP hm hh h0 (p81_1 m g _ _) (by simp [*]) (by decide) (eP (.inl rfl)), joinP hm2 hh h0 (p81_1 (setF m _ _ _ _ _) g _ _) (by simp [setF, *]) (by decide) (eP (.inl rfl)), ⟨rfl, rfl, rfl, rfl, rfl, rfl, rfl, rfl, rfl, rfl⟩, .inl ⟨rfl, ⟨rfl, rfl, rfl, rfl⟩, rfl⟩⟩
  · exact ⟨_, _, _, _, 0, joinP hm hh h0 (p81_1 m g _ _) (by simp [*]) (by decide) (eP (.inl rfl)), joinP hm2 hh h0 (p81_0 (setF m _ _ _ _ _) g _ _) (by simp [setF, *]) (by decide) (eP (.inl rfl)), ⟨rfl, rfl, rfl, rfl, rfl, rfl, rfl, rfl, rfl, rfl⟩, .inl ⟨rfl, ⟨rfl, rfl, rfl, rfl⟩, rfl⟩⟩
theorem t82 {m : Mc} {g : Nat → Int} {s z x p c : Bool} (hm : m.Ok) (hg : ∀ e, B8 (g e)) (hh : m.halt = false) (h0 : g (ix m.pc) = 130) : Tw 31 m (setF m s z x p c) g := by
  obtain ⟨r0, r1, r2, r3, r4, r5, r7, sp, pc⟩ := id hm
  have hm2 := setF_ok (s := s) (z := z) (x := x) (p := p) (c := c) hm
  rcases Bool.eq_false_or_eq_true m.fc with hf | hf <;> cases c
  · exact ⟨_, _, _, _, 0, joinP hm hh h0 (p82_0 m g _ _) (by simp [*]) (by decide) (eP (.inl rfl)), joinP hm2 hh h0 (p82_1 (setF m _ _ _ _ _) g _ _) (by simp [setF, *]) (by decide) (eP (.inl rfl)), ⟨rfl, rfl, rfl, rfl, rfl, rfl, rfl, rfl, rfl, rfl⟩, .inl ⟨rfl, ⟨rfl, rfl, rfl, rfl⟩, rfl⟩⟩
  · exact ⟨_, _, _, _, 0, joinP hm hh h0 (p82_0 m g _ _) (by simp [*]) (by decide) (eP (.inl rfl)), joinP hm2 hh h0 (p82_0 (setF m _ _ _ _ _) g _ _) (by simp [setF, *]) (by decide) (eP (.inl rfl)), ⟨rfl, rfl, rfl, rfl, rfl, rfl, rfl, rfl, rfl, rfl⟩, .inl ⟨rfl, ⟨rfl, rfl, rfl, rfl⟩, rfl⟩⟩
  · exact ⟨_, _, _, _, 0, joinP hm hh h0 (p82_1 m g _ _) (by simp [*]) (by decide) (eP (.inl rfl)), joinP hm2 hh h0 (p82_1 (setF m _ _ _ _ _) g _ _) (by simp [setF, *]) (by decide) (eP (.inl rfl)), ⟨rfl, rfl, rfl, rfl, rfl, rfl, rfl, rfl, rfl, rfl⟩, .inl ⟨rfl, ⟨rfl, rfl, rfl, rfl⟩, rfl⟩⟩
  · exact ⟨_, _, _, _, 0, joinP hm hh h0 (p82_1 m g _ _) (by simp [*]) (by decide) (eP (.inl rfl)), joinP hm2 hh h0 (p82_0 (setF m _ _ _ _ _) g _ _) (by simp [setF, *]) (by decide) (eP (.inl rfl)), ⟨rfl, rfl, rfl, rfl, rfl, rfl, rfl, rfl, rfl, rfl⟩, .inl ⟨rfl, ⟨rfl, rfl, rfl, rfl⟩, rfl⟩⟩
theorem t83 {m : Mc} {g : Nat → Int} {s z x p c : Bool} (hm : m.Ok) (hg : ∀ e, B8 (g e)) (hh : m.halt = false) (h0 : g (ix m.pc) = 131) : Tw 31 m (setF m s z x p c) g := by
  obtain ⟨r0, r1, r2, r3, r4, r5, r7, sp, pc⟩ := id hm
  have hm2 := setF_ok (s := s) (z := z) (x := x) (p := p) (c := c) hm
  rcases Bool.eq_false_or_eq_true m.fc with hf | hf <;> cases c
  · exact ⟨_, _, _, _, 0, joinP hm hh h0 (p83_0 m g _ _) (by simp [*]) (by decide) (eP (.inl rfl)), joinP hm2 hh h0 (p83_1 (setF m _ _ _ _ _) g _ _) (by simp [setF, *]) (by decide) (eP (.inl rfl)), ⟨rfl, rfl, rfl, rfl, rfl, rfl, rfl, rfl, rfl, rfl⟩, .inl ⟨rfl, ⟨rfl, rfl, rfl, rfl⟩, rfl⟩⟩
  · exact ⟨_, _, _, _, 0, joinP hm hh h0 (p83_0 m g _ _) (by simp [*]) (by decide) (eP (.inl rfl)), joinP hm2 hh h0 (p83_0 (setF m _ _ _ _ _) g _ _) (by simp [setF, *]) (by decide) (eP (.inl rfl)), ⟨rfl, rfl, rfl, rfl, rfl, rfl, rfl, rfl, rfl, rfl⟩, .inl ⟨rfl, ⟨rfl, rfl, rfl, rfl⟩, rfl⟩⟩
  · exact ⟨_, _, _, _, 0, joinP hm hh h0 (p83_1 m g _ _) (by simp [*]) (by decide) (eP (.inl rfl)), joinP hm2 hh h0 (p83_1 (setF m _ _ _ _ _) g _ _) (by simp [setF, *]) (by decide) (eP (.inl rfl)), ⟨rfl, rfl, rfl, rfl, rfl, rfl, rfl, rfl, rfl, rfl⟩, .inl ⟨rfl, ⟨rfl, rfl, rfl, rfl⟩, rfl⟩⟩
  · exact ⟨_, _, _, _, 0, joinP hm hh h0 (p83_1 m g _ _) (by simp [*]) (by decide) (eP (.inl rfl)), joinP hm2 hh h0 (p83_0 (setF m _ _ _ _ _) g _ _) (by simp [setF, *]) (by decide) (eP (.inl rfl)), ⟨rfl, rfl, rfl, rfl, rfl, rfl, rfl, rfl, rfl, rfl⟩, .inl ⟨rfl, ⟨rfl, rfl, rfl, rfl⟩, rfl⟩⟩
theorem t84 {m : Mc} {g : Nat → Int} {s z x p c : Bool} (hm : m.Ok) (hg : ∀ e, B8 (g e)) (hh : m.halt = false) (h0 : g (ix m.pc) = 132) : Tw 31 m (setF m s z x p c) g := by
  obtain ⟨r0, r1, r2, r3, r4, r5, r7, sp, pc⟩ := id hm
  have hm2 := setF_ok (s := s) (z := z) (x := x) (p := p) (c := c) hm
  rcases Bool.eq_false_or_eq_true m.fc with hf | hf <;> cases c
  · exact ⟨_, _, _, _, 0, joinP hm hh h0 (p84_0 m g _ _) (by simp [*]) (by decide) (eP (.inl rfl)), joinP hm2 hh h0 (p84_1 (setF m _ _ _ _ _) g _ _) (by simp [setF, *]) (by decide) (eP (.inl rfl)), ⟨rfl, rfl, rfl, rfl, rfl, rfl, rfl, rfl, rfl, rfl⟩, .inl ⟨rfl, ⟨rfl, rfl, rfl, rfl⟩, rfl⟩⟩
  · exact ⟨_, _, _, _, 0, joinP hm hh h0 (p84_0 m g _ _) (by simp [*]) (by decide) (eP (.inl rfl)), joinP hm2 hh h0 (p84_0 (setF m _ _ _ _ _) g _ _) (by simp [setF, *]) (by decide) (eP (.inl rfl)), ⟨rfl, rfl, rfl, rfl, rfl, rfl, rfl, rfl, rfl, rfl⟩, .inl ⟨rfl, ⟨rfl, rfl, rfl, rfl⟩, rfl⟩⟩
  · exact ⟨_, _, _, _, 0, joinP hm hh h0 (p84_1 m g _ _) (by simp [*]) (by decide) (eP (.inl rfl)), joinP hm2 hh h0 (p84_1 (setF m _ _ _ _ _) g _ _) (by simp [setF, *]) (by decide) (eP (.inl rfl)), ⟨rfl, rfl, rfl, rfl, rfl, rfl, rfl, rfl, rfl, rfl⟩, .inl ⟨rfl, ⟨rfl, rfl, rfl, rfl⟩, rfl⟩⟩
  · exact ⟨_, _, _, _, 0, joinP hm hh h0 (p84_1 m g _ _) (by simp [*]) (by decide) (eP (.inl rfl)), joinP hm2 hh h0 (p84_0 (setF m _ _ _ _ _) g _ _) (by simp [setF, *]) (by decide) (eP (.inl rfl)), ⟨rfl, rfl, rfl, rfl, rfl, rfl, rfl, rfl, rfl, rfl⟩, .inl ⟨rfl, ⟨rfl, rfl, rfl, rfl⟩, rfl⟩⟩
theorem t85 {m : Mc} {g : Nat → Int} {s z x p c : Bool} (hm : m.Ok) (hg : ∀ e, B8 (g e)) (hh : m.halt = false) (h0 : g (ix m.pc) = 133) : Tw 31 m (setF m s z x p c) g := by
  obtain ⟨r0, r1, r2, r3, r4, r5, r7, sp, pc⟩ := id hm
  have hm2 := setF_ok (s := s) (z := z) (x := x) (p := p) (c := c) hm
  rcases Bool.eq_false_or_eq_true m.fc with hf | hf <;> cases c
  · exact ⟨_, _, _, _, 0, joinP hm hh h0 (p85_0 m g _ _) (by simp [*]) (by decide) (eP (.inl rfl)), joinP hm2 hh h0 (p85_1 (setF m _ _ _ _ _) g _ _) (by simp [setF, *]) (by decide) (eP (.inl rfl)), ⟨rfl, rfl, rfl, rfl, rfl, rfl, rfl, rfl, rfl, rfl⟩, .inl ⟨rfl, ⟨rfl, rfl, rfl, rfl⟩, rfl⟩⟩
  · exact ⟨_, _, _, _, 0, joinP hm hh h0 (p85_0 m g _ _) (by simp [*]) (by decide) (eP (.inl rfl)), joinP hm2 hh h0 (p85_0 (setF m _ _ _ _ _) g _ _) (by simp [setF, *]) (by decide) (eP (.inl rfl)), ⟨rfl, rfl, rfl, rfl, rfl, rfl, rfl, rfl, rfl, rfl⟩, .inl ⟨rfl, ⟨rfl, rfl, rfl, rfl⟩, rfl⟩⟩
  · exact ⟨_, _, _, _, 0, joinP hm hh h0 (p85_1 m g _ _) (by simp [*]) (by decide) (eP (.inl rfl)), joinP hm2 hh h0 (p85_1 (setF m _ _ _ _ _) g _ _) (by simp [setF, *]) (by decide) (eP (.inl rfl)), ⟨rfl, rfl, rfl, rfl, rfl, rfl, rfl, rfl, rfl, rfl⟩, .inl ⟨rfl, ⟨rfl, rfl, rfl, rfl⟩, rfl⟩⟩
  · exact ⟨_, _, _, _, 0, joinP hm hh h0 (p85_1 m g _ _) (by simp [*]) (by decide) (eP (.inl rfl)), joinP hm2 hh h0 (p85_0 (setF m _ _ _ _ _) g _ _) (by simp [setF, *]) (by decide) (eP (.inl rfl)), ⟨rfl, rfl, rfl, rfl, rfl, rfl, rfl, rfl, rfl, rfl⟩, .inl ⟨rfl, ⟨rfl, rfl, rfl, rfl⟩, rfl⟩⟩
theorem t86 {m : Mc} {g : Nat → Int} {s z x p c : Bool} (hm : m.Ok) (hg : ∀ e, B8 (g e)) (hh : m.halt = false) (h0 : g (ix m.pc) = 134) : Tw 31 m (setF m s z x p c) g := by
  obtain ⟨r0, r1, r2, r3, r4, r5, r7, sp, pc⟩ := id hm
  have hm2 := setF_ok (s := s) (z := z) (x := x) (p := p) (c := c) hm
  rcases Bool.eq_false_or_eq_true m.fc with hf | hf <;> cases c
  · exact ⟨_, _, _, _, 0, joinP hm hh h0 (p86_0 m g _ _) (by simp [*]) (by decide) (eP (.inl rfl)), joinP hm2 hh h0 (p86_1 (setF m _ _ _ _ _) g _ _) (by simp [setF, *]) (by decide) (eP (.inl rfl)), ⟨rfl, rfl, rfl, rfl, rfl, rfl, rfl, rfl, rfl, rfl⟩, .inl ⟨rfl, ⟨rfl, rfl, rfl, rfl⟩, rfl⟩⟩
  · exact ⟨_, _, _, _, 0, joinP hm hh h0 (p86_0 m g _ _) (by simp [*]) (by decide) (eP (.inl rfl)), joinP hm2 hh h0 (p86_0 (setF m _ _ _ _ _) g _ _) (by simp [setF, *]) (by decide) (eP (.inl rfl)), ⟨rfl, rfl, rfl, rfl, rfl, rfl, rfl, rfl, rfl, rfl⟩, .inl ⟨rfl, ⟨rfl, rfl, rfl, rfl⟩, rfl⟩⟩
  · exact ⟨_, _, _, _, 0, joinP hm hh h0 (p86_1 m g _ _) (by simp [*]) (by decide) (eP (.inl rfl)), joinP hm2 hh h0 (p86_1 (setF m _ _ _ _ _) g _ _) (by simp [setF, *]) (by decide) (eP (.inl rfl)), ⟨rfl, rfl, rfl, rfl, rfl, rfl, rfl, rfl, rfl, rfl⟩, .inl ⟨rfl, ⟨rfl, rfl, rfl, rfl⟩, rfl⟩⟩
  · exact ⟨_, _, _, _, 0, joinP hm hh h0 (p86_1 m g _ _) (by simp [*]) (by decide) (eP (.inl rfl)), joinP hm2 hh h0 (p86_0 (setF m _ _ _ _ _) g _ _) (by simp [setF, *]) (by decide) (eP (.inl rfl)), ⟨rfl, rfl, rfl, rfl, rfl, rfl, rfl, rfl, rfl, rfl⟩, .inl ⟨rfl, ⟨rfl, rfl, rfl, rfl⟩, rfl⟩⟩
theorem t87 {m : Mc} {g : Nat → Int} {s z x p c : Bool} (hm : m.Ok) (hg : ∀ e, B8 (g e)) (hh : m.halt = false) (h0 : g (ix m.pc) = 135) : Tw 31 m (setF m s z x p c) g := by
  obtain ⟨r0, r1, r2, r3, r4, r5, r7, sp, pc⟩ := id hm
  have hm2 := setF_ok (s := s) (z := z) (x := x) (p := p) (c := c) hm
  rcases Bool.eq_false_or_eq_true m.fc with hf | hf <;> cases c
  · exact ⟨_, _, _, _, 0, joinP hm hh h0 (p87_0 m g _ _) (by simp [*]) (by decide) (eP (.inl rfl)), joinP hm2 hh h0 (p87_1 (setF m _ _ _ _ _) g _ _) (by simp [setF, *]) (by decide) (eP (.inl rfl)), ⟨rfl, rfl, rfl, rfl, rfl, rfl, rfl, rfl, rfl, rfl⟩, .inl ⟨rfl, ⟨rfl, rfl, rfl, rfl⟩, rfl⟩⟩
  · exact ⟨_, _, _, _, 0, joinP hm hh h0 (p87_0 m g _ _) (by simp [*]) (by decide) (eP (.inl rfl)), joinP hm2 hh h0 (p87_0 (setF m _ _ _ _ _) g _ _) (by simp [setF, *]) (by decide) (eP (.inl rfl)), ⟨rfl, rfl, rfl, rfl, rfl, rfl, rfl, rfl, rfl, rfl⟩, .inl ⟨rfl, ⟨rfl, rfl, rfl, rfl⟩, rfl⟩⟩
  · exact ⟨_, _, _, _, 0, joinP hm hh h0 (p87_1 m g _ _) (by simp [*]) (by decide) (eP (.inl rfl)), joinP hm2 hh h0 (p87_1 (setF m _ _ _ _ _) g _ _) (by simp [setF, *]) (by decide) (eP (.inl rfl)), ⟨rfl, rfl, rfl, rfl, rfl, rfl, rfl, rfl, rfl, rfl⟩, .inl ⟨rfl, ⟨rfl, rfl, rfl, rfl⟩, rfl⟩⟩
  · exact ⟨_, _, _, _, 0, joinP hm hh h0 (p87_1 m g _ _) (by simp [*]) (by decide) (eP (.inl rfl)), joinP hm2 hh h0 (p87_0 (setF m _ _ _ _ _) g _ _) (by simp [setF, *]) (by decide) (eP (.inl rfl)), ⟨rfl, rfl, rfl, rfl, rfl, rfl, rfl, rfl, rfl, rfl⟩, .inl ⟨rfl, ⟨rfl, rfl, rfl, rfl⟩, rfl⟩⟩
theorem t88 {m : Mc} {g : Nat → Int} {s z x p c : Bool} (hm : m.Ok) (hg : ∀ e, B8 (g e)) (hh : m.halt = false) (h0 : g (ix m.pc) = 136) (hc : m.fc = c) : Tw 31 m (setF m s z x p c) g := by
  subst hc
  obtain ⟨r0, r1, r2, r3, r4, r5, r7, sp, pc⟩ := id hm
  have hm2 := setF_ok (s := s) (z := z) (x := x) (p := p) (c := m.fc) hm
  rcases Bool.eq_false_or_eq_true m.fc with hf | hf
  · exact ⟨_, _, _, _, 0, joinP hm hh h0 (p88_0 m g _ _) (by simp [*]) (by decide) (eP (.inl rfl)), joinP hm2 hh h0 (p88_0 (setF m _ _ _ _ _) g _ _) (by simp [setF, *]) (by decide) (eP (.inl rfl)), ⟨rfl, rfl, rfl, rfl, rfl, rfl, rfl, rfl, rfl, rfl⟩, .inl ⟨rfl, ⟨rfl, rfl, rfl, rfl⟩, rfl⟩⟩
  · exact ⟨_, _, _, _, 0, joinP hm hh h0 (p88_1 m g _ _) (by simp [*]) (by decide) (eP (.inl rfl)), joinP hm2 hh h0 (p88_1 (setF m _ _ _ _ _) g _ _) (by simp [setF, *]) (by decide) (eP (.inl rfl)), ⟨rfl, rfl, rfl, rfl, rfl, rfl, rfl, rfl, rfl, rfl⟩, .inl ⟨rfl, ⟨rfl, rfl, rfl, rfl⟩, rfl⟩⟩
theorem t89 {m : Mc} {g : Nat → Int} {s z x p c : Bool} (hm : m.Ok) (hg : ∀ e, B8 (g e)) (hh : m.halt = false) (h0 : g (ix m.pc) = 137) (hc : m.fc = c) : Tw 31 m (setF m s z x p c) g := by
  subst hc
  obtain ⟨r0, r1, r2, r3, r4, r5, r7, sp, pc⟩ := id hm
  have hm2 := setF_ok (s := s) (z := z) (x := x) (p := p) (c := m.fc) hm
  rcases Bool.eq_false_or_eq_true m.fc with hf | hf
  · exact ⟨_, _, _, _, 0, joinP hm hh h0 (p89_0 m g _ _) (by simp [*]) (by decide) (eP (.inl rfl)), joinP hm2 hh h0 (p89_0 (setF m _ _ _ _ _) g _ _) (by simp [setF, *]) (by decide) (eP (.inl rfl)), ⟨rfl, rfl, rfl, rfl, rfl, rfl, rfl, rfl, rfl, rfl⟩, .inl ⟨rfl, ⟨rfl, rfl, rfl, rfl⟩, rfl⟩⟩
  · exact ⟨_, _, _, _, 0, joinP hm hh h0 (p89_1 m g _ _) (by simp [*]) (by decide) (eP (.inl rfl)), joinP hm2 hh h0 (p89_1 (setF m _ _ _ _ _) g _ _) (by simp [setF, *]) (by decide) (eP (.inl rfl)), ⟨rfl, rfl, rfl, rfl, rfl, rfl, rfl, rfl, rfl, rfl⟩, .inl ⟨rfl, ⟨rfl, rfl, rfl, rfl⟩, rfl⟩⟩
theorem t8a {m : Mc} {g : Nat → Int} {s z x p c : Bool} (hm : m.Ok) (hg : ∀ e, B8 (g e)) (hh : m.halt = false) (h0 : g (ix m.pc) = 138) (hc : m.fc = c) : Tw 31 m (setF m s z x p c) g := by
  subst hc
  obtain ⟨r0, r1, r2, r3, r4, r5, r7, sp, pc⟩ := id hm
  have hm2 := setF_ok (s := s) (z := z) (x := x) (p := p) (c := m.fc) hm
  rcases Bool.eq_false_or_eq_true m.fc with hf | hf
  · exact ⟨_, _, _, _, 0, joinP hm hh h0 (p8a_0 m g _ _) (by simp [*]) (by decide) (eP (.inl rfl)), joinP hm2 hh h0 (p8a_0 (setF m _ _ _ _ _) g _ _) (by simp [setF, *]) (by decide) (eP (.inl rfl)), ⟨rfl, rfl, rfl, rfl, rfl, rfl, rfl, rfl, rfl, rfl⟩, .inl ⟨rfl, ⟨rfl, rfl, rfl, rfl⟩, rfl⟩⟩
  · exact ⟨_, _, _, _, 0, joinP hm hh h0 (p8a_1 m g _ _) (by simp [*]) (by decide) (eP (.inl rfl)), joinP hm2 hh h0 (p8a_1 (setF m _ _ _ _ _) g _ _) (by simp [setF, *]) (by decide) (eP (.inl rfl)), ⟨rfl, rfl, rfl, rfl, rfl, rfl, rfl, rfl, rfl, rfl⟩, .inl ⟨rfl, ⟨rfl, rfl, rfl, rfl⟩, rfl⟩⟩
theorem t8b {m : Mc} {g : Nat → Int} {s z x p c : Bool} (hm : m.Ok) (hg : ∀ e, B8 (g e)) (hh : m.halt = false) (h0 : g (ix m.pc) = 139) (hc : m.fc = c) : Tw 31 m (setF m s z x p c) g := by
  subst hc
  obtain ⟨r0, r1, r2, r3, r4, r5, r7, sp, pc⟩ := id hm
  have hm2 := setF_ok (s := s) (z := z) (x := x) (p := p) (c := m.fc) hm
  rcases Bool.eq_false_or_eq_true m.fc with hf | hf
  · exact ⟨_, _, _, _, 0, joinP hm hh h0 (p8b_0 m g _ _) (by simp [*]) (by decide) (eP (.inl rfl)), joinP hm2 hh h0 (p8b_0 (setF m _ _ _ _ _) g _ _) (by simp [setF, *]) (by decide) (eP (.inl rfl)), ⟨rfl, rfl, rfl, rfl, rfl, rfl, rfl, rfl, rfl, rfl⟩, .inl ⟨rfl, ⟨rfl, rfl, rfl, rfl⟩, rfl⟩⟩
  · exact ⟨_, _, _, _, 0, joinP hm hh h0 (p8b_1 m g _ _) (by simp [*]) (by decide) (eP (.inl rfl)), joinP hm2 hh h0 (p8b_1 (setF m _ _ _ _ _) g _ _) (by simp [setF, *]) (by decide) (eP (.inl rfl)), ⟨rfl, rfl, rfl, rfl, rfl, rfl, rfl, rfl, rfl, rfl⟩, .inl ⟨rfl, ⟨rfl, rfl, rfl, rfl⟩, rfl⟩⟩
theorem t8c {m : Mc} {g : Nat → Int} {s z x p c : Bool} (hm : m.Ok) (hg : ∀ e, B8 (g e)) (hh : m.halt = false) (h0 : g (ix m.pc) = 140) (hc : m.fc = c) : Tw 31 m (setF m s z x p c) g := by
  subst hc
  obtain ⟨r0, r1, r2, r3, r4, r5, r7, sp, pc⟩ := id hm
  have hm2 := setF_ok (s := s) (z := z) (x := x) (p := p) (c := m.fc) hm
  rcases Bool.eq_false_or_eq_true m.fc with hf | hf
  · exact ⟨_, _, _, _, 0, joinP hm hh h0 (p8c_0 m g _ _) (by simp [*]) (by decide) (eP (.inl rfl)), joinP hm2 hh h0 (p8c_0 (setF m _ _ _ _ _) g _ _) (by simp [setF, *]) (by decide) (eP (.inl rfl)), ⟨rfl, rfl, rfl, rfl, rfl, rfl, rfl, rfl, rfl, rfl⟩, .inl ⟨rfl, ⟨rfl, rfl, rfl, rfl⟩, rfl⟩⟩
  · exact ⟨_, _, _, _, 0, joinP hm hh h0 (p8c_1 m g _ _) (by simp [*]) (by decide) (eP (.inl rfl)), joinP hm2 hh h0 (p8c_1 (setF m _ _ _ _ _) g _ _) (by simp [setF, *]) (by decide) (eP (.inl rfl)), ⟨rfl, rfl, rfl, rfl, rfl, rfl, rfl, rfl, rfl, rfl⟩, .inl ⟨rfl, ⟨rfl, rfl, rfl, rfl⟩, rfl⟩⟩
theorem t8d {m : Mc} {g : Nat → Int} {s z x p c : Bool} (hm : m.Ok) (hg : ∀ e, B8 (g e)) (hh : m.halt = false) (h0 : g (ix m.pc) = 141) (hc : m.fc = c) : Tw 31 m (setF m s z x p c) g := by
  subst hc
  obtain ⟨r0, r1, r2, r3, r4, r5, r7, sp, pc⟩ := id hm
  have hm2 := setF_ok (s := s) (z := z) (x := x) (p := p) (c := m.fc) hm
  rcases Bool.eq_false_or_eq_true m.fc with hf | hf
  · exact ⟨_, _, _, _, 0, joinP hm hh h0 (p8d_0 m g _ _) (by simp [*]) (by decide) (eP (.inl rfl)), joinP hm2 hh h0 (p8d_0 (setF m _ _ _ _ _) g _ _) (by simp [setF, *]) (by decide) (eP (.inl rfl)), ⟨rfl, rfl, rfl, rfl, rfl, rfl, rfl, rfl, rfl, rfl⟩, .inl ⟨rfl, ⟨rfl, rfl, rfl, rfl⟩, rfl⟩⟩
  · exact ⟨_, _, _, _, 0, joinP hm hh h0 (p8d_1 m g _ _) (by simp [*]) (by decide) (eP (.inl rfl)), joinP hm2 hh h0 (p8d_1 (setF m _ _ _ _ _) g _ _) (by simp [setF, *]) (by decide) (eP (.inl rfl)), ⟨rfl, rfl, rfl, rfl, rfl, rfl, rfl, rfl, rfl, rfl⟩, .inl ⟨rfl, ⟨rfl, rfl, rfl, rfl⟩, rfl⟩⟩
theorem t8e {m : Mc} {g : Nat → Int} {s z x p c : Bool} (hm : m.Ok) (hg : ∀ e, B8 (g e)) (hh : m.halt = false) (h0 : g (ix m.pc) = 142) (hc : m.fc = c) : Tw 31 m (setF m s z x p c) g := by
  subst hc
  obtain ⟨r0, r1, r2, r3, r4, r5, r7, sp, pc⟩ := id hm
  have hm2 := setF_ok (s := s) (z := z) (x := x) (p := p) (c := m.fc) hm
  rcases Bool.eq_false_or_eq_true m.fc with hf | hf
  · exact ⟨_, _, _, _, 0, joinP hm hh h0 (p8e_0 m g _ _) (by simp [*]) (by decide) (eP (.inl rfl)), joinP hm2 hh h0 (p8e_0 (setF m _ _ _ _ _) g _ _) (by simp [setF, *]) (by decide) (eP (.inl rfl)), ⟨rfl, rfl, rfl, rfl, rfl, rfl, rfl, rfl, rfl, rfl⟩, .inl ⟨rfl, ⟨rfl, rfl, rfl, rfl⟩, rfl⟩⟩
  · exact ⟨_, _, _, _, 0, joinP hm hh h0 (p8e_1 m g _ _) (by simp [*]) (by decide) (eP (.inl rfl)), joinP hm2 hh h0 (p8e_1 (setF m _ _ _ _ _) g _ _) (by simp [setF, *]) (by decide) (eP (.inl rfl)), ⟨rfl, rfl, rfl, rfl, rfl, rfl, rfl, rfl, rfl, rfl⟩, .inl ⟨rfl, ⟨rfl, rfl, rfl, rfl⟩, rfl⟩⟩
theorem t8f {m : Mc} {g : Nat → Int} {s z x p c : Bool} (hm : m.Ok) (hg : ∀ e, B8 (g e)) (hh : m.halt = false) (h0 : g (ix m.pc) = 143) (hc : m.fc = c) : Tw 31 m (setF m s z x p c) g := by
  subst hc
  obtain ⟨r0, r1, r2, r3, r4, r5, r7, sp, pc⟩ := id hm
  have hm2 := setF_ok (s := s) (z := z) (x := x) (p := p) (c := m.fc) hm
  rcases Bool.eq_false_or_eq_true m.fc with hf | hf
  · exact ⟨_, _, _, _, 0, joinP hm hh h0 (p8f_0 m g _ _) (by simp [*]) (by decide) (eP (.inl rfl)), joinP hm2 hh h0 (p8f_0 (setF m _ _ _ _ _) g _ _) (by simp [setF, *]) (by decide) (eP (.inl rfl)), ⟨rfl, rfl, rfl, rfl, rfl, rfl, rfl, rfl, rfl, rfl⟩, .inl ⟨rfl, ⟨rfl, rfl, rfl, rfl⟩, rfl⟩⟩
  · exact ⟨_, _, _, _, 0, joinP hm hh h0 (p8f_1 m g _ _) (by simp [*]) (by decide) (eP (.inl rfl)), joinP hm2 hh h0 (p8f_1 (setF m _ _ _ _ _) g _ _) (by simp [setF, *]) (by decide) (eP (.inl rfl)), ⟨rfl, rfl, rfl, rfl, rfl, rfl, rfl, rfl, rfl, rfl⟩, .inl ⟨rfl, ⟨rfl, rfl, rfl, rfl⟩, rfl⟩⟩
end Go.Proofs.Ytdjmpilegommlaa
namespace Go.Proofs.Ytdjmpilegommlaa
open Go Go.Ly Go.RowKit
@[simp] def z90_0 (m : Mc) : Mc := { m with fc := decide (m.r7 - m.r0 - 0 < 0), fp := par ((m.r7 - m.r0 - 0) % 256), fs := decide (128 ≤ (m.r7 - m.r0 - 0) % 256), fx := decide (15 < m.r7 % 16 + 15 - m.r0 % 16 + 1), fz := (m.r7 - m.r0 - 0) % 256 == 0, pc := w16 (m.pc + 1), r7 := (m.r7 - m.r0 - 0) % 256 }
theorem p90_0 (m : Mc) (g : Nat → Int) (b1 b2 : Int) : endsAt [0, 1] (Ly.run cx3 3000 [(22, true), (7, true)] (sP m g 144 b1 b2)) = some (T [m.fc == true, inb m.r7 && inb m.r0], .int .i64 0, 5, hPm (z90_0 m) (memL g)) := by kernel_rfl
theorem p90_1 (m : Mc) (g : Nat → Int) (b1 b2 : Int) : endsAt [0, 1] (Ly.run cx3 3000 [(22, false), (7, true)] (sP m g 144 b1 b2)) = some ([(m.fc == true, false), (inb m.r7 && inb m.r0, true)], .int .i64 0, 5, hPm (z90_0 m) (memL g)) := by kernel_rfl
@[simp] def z91_0 (m : Mc) : Mc := { m with fc := decide (m.r7 - m.r1 - 0 < 0), fp := par ((m.r7 - m.r1 - 0) % 256), fs := decide (128 ≤ (m.r7 - m.r1 - 0) % 256), fx := decide (15 < m.r7 % 16 + 15 - m.r1 % 16 + 1), fz := (m.r7 - m.r1 - 0) % 256 == 0, pc := w16 (m.pc + 1), r7 := (m.r7 - m.r1 - 0) % 256 }
theorem p91_0 (m : Mc) (g : Nat → Int) (b1 b2 : Int) : endsAt [0, 1] (Ly.run cx3 3000 [(22, true), (7, true)] (sP m g 145 b1 b2)) = some (T [m.fc == true, inb m.r7 && inb m.r1], .int .i64 0, 5, hPm (z91_0 m) (memL g)) := by kernel_rfl
theorem p91_1 (m : Mc) (g : Nat → Int) (b1 b2 : Int) : endsAt [0, 1] (Ly.run cx3 3000 [(22, false), (7, true)] (sP m g 145 b1 b2)) = some ([(m.fc == true, false), (inb m.r7 && inb m.r1, true)], .int .i64 0, 5, hPm (z91_0 m) (memL g)) := by kernel_rfl
@[simp] def z92_0 (m : Mc) : Mc := { m with fc := decide (m.r7 - m.r2 - 0 < 0), fp := par ((m.r7 - m.r2 - 0) % 256), fs := decide (128 ≤ (m.r7 - m.r2 - 0) % 256), fx := decide (15 < m.r7 % 16 + 15 - m.r2 % 16 + 1), fz := (m.r7 - m.r2 - 0) % 256 == 0, pc := w16 (m.pc + 1), r7 := (m.r7 - m.r2 - 0) % 256 }
theorem p92_0 (m : Mc) (g : Nat → Int) (b1 b2 : Int) : endsAt [0, 1] (Ly.run cx3 3000 [(22, true), (7, true)] (sP m g 146 b1 b2)) = some (T [m.fc == true, inb m.r7 && inb m.r2], .int .i64 0, 5, hPm (z92_0 m) (memL g)) := by kernel_rfl
theorem p92_1 (m : Mc) (g : Nat → Int) (b1 b2 : Int) : endsAt [0, 1] (Ly.run cx3 3000 [(22, false), (7, true)] (sP m g 146 b1 b2)) = some ([(m.fc == true, false), (inb m.r7 && inb m.r2, true)], .int .i64 0, 5, hPm (z92_0 m) (memL g)) := by kernel_rfl
@[simp] def z93_0 (m : Mc) : Mc := { m with fc := decide (m.r7 - m.r3 - 0 < 0), fp := par ((m.r7 - m.r3 - 0) % 256), fs := decide (128 ≤ (m.r7 - m.r3 - 0) % 256), fx := decide (15 < m.r7 % 16 + 15 - m.r3 % 16 + 1), fz := (m.r7 - m.r3 - 0) % 256 == 0, pc := w16 (m.pc + 1), r7 := (m.r7 - m.r3 - 0) % 256 }
theorem p93_0 (m : Mc) (g : Nat → Int) (b1 b2 : Int) : endsAt [0, 1] (Ly.run cx3 3000 [(22, true), (7, true)] (sP m g 147 b1 b2)) = some (T [m.fc == true, inb m.r7 && inb m.r3], .int .i64 0, 5, hPm (z93_0 m) (memL g)) := by kernel_rfl
theorem p93_1 (m : Mc) (g : Nat → Int) (b1 b2 : Int) : endsAt [0, 1] (Ly.run cx3 3000 [(22, false), (7, true)] (sP m g 147 b1 b2)) = some ([(m.fc == true, false), (inb m.r7 && inb m.r3, true)], .int .i64 0, 5, hPm (z93_0 m) (memL g)) := by kernel_rfl
@[simp] def z94_0 (m : Mc) : Mc := { m with fc := decide (m.r7 - m.r4 - 0 < 0), fp := par ((m.r7 - m.r4 - 0) % 256), fs := decide (128 ≤ (m.r7 - m.r4 - 0) % 256), fx := decide (15 < m.r7 % 16 + 15 - m.r4 % 16 + 1), fz := (m.r7 - m.r4 - 0) % 256 == 0, pc := w16 (m.pc + 1), r7 := (m.r7 - m.r4 - 0) % 256 }
theorem p94_0 (m : Mc) (g : Nat → Int) (b1 b2 : Int) : endsAt [0, 1] (Ly.run cx3 3000 [(22, true), (7, true)] (sP m g 148 b1 b2)) = some (T [m.fc == true, inb m.r7 && inb m.r4], .int .i64 0, 5, hPm (z94_0 m) (memL g)) := by kernel_rfl
theorem p94_1 (m : Mc) (g : Nat → Int) (b1 b2 : Int) : endsAt [0, 1] (Ly.run cx3 3000 [(22, false), (7, true)] (sP m g 148 b1 b2)) = some ([(m.fc == true, false), (inb m.r7 && inb m.r4, true)], .int .i64 0, 5, hPm (z94_0 m) (memL g)) := by kernel_rfl
@[simp] def z95_0 (m : Mc) : Mc := { m with fc := decide (m.r7 - m.r5 - 0 < 0), fp := par ((m.r7 - m.r5 - 0) % 256), fs := decide (128 ≤ (m.r7 - m.r5 - 0) % 256), fx := decide (15 < m.r7 % 16 + 15 - m.r5 % 16 + 1), fz := (m.r7 - m.r5 - 0) % 256 == 0, pc := w16 (m.pc + 1), r7 := (m.r7 - m.r5 - 0) % 256 }
theorem p95_0 (m : Mc) (g : Nat → Int) (b1 b2 : Int) : endsAt [0, 1] (Ly.run cx3 3000 [(22, true), (7, true)] (sP m g 149 b1 b2)) = some (T [m.fc == true, inb m.r7 && inb m.r5], .int .i64 0, 5, hPm (z95_0 m) (memL g)) := by kernel_rfl
theorem p95_1 (m : Mc) (g : Nat → Int) (b1 b2 : Int) : endsAt [0, 1] (Ly.run cx3 3000 [(22, false), (7, true)] (sP m g 149 b1 b2)) = some ([(m.fc == true, false), (inb m.r7 && inb m.r5, true)], .int .i64 0, 5, hPm (z95_0 m) (memL g)) := by kernel_rfl
@[simp] def z96_0 (m : Mc) (g : Nat → Int) : Mc := { m with fc := decide (m.r7 - g (ix (or16 (w16 (w16 m.r4 * 256)) (w16 m.r5))) - 0 < 0), fp := par ((m.r7 - g (ix (or16 (w16 (w16 m.r4 * 256)) (w16 m.r5))) - 0) % 256), fs := decide (128 ≤ (m.r7 - g (ix (or16 (w16 (w16 m.r4 * 256)) (w16 m.r5))) - 0) % 256), fx := decide (15 < m.r7 % 16 + 15 - g (ix (or16 (w16 (w16 m.r4 * 256)) (w16 m.r5))) % 16 + 1), fz := (m.r7 - g (ix (or16 (w16 (w16 m.r4 * 256)) (w16 m.r5))) - 0) % 256 == 0, pc := w16 (m.pc + 1), r7 := (m.r7 - g (ix (or16 (w16 (w16 m.r4 * 256)) (w16 m.r5))) - 0) % 256 }
theorem p96_0 (m : Mc) (g : Nat → Int) (b1 b2 : Int) : endsAt [0, 1] (Ly.run cx3 3000 [(28, true), (0, true), (13, true), (0, true), (1, true), (7, true)] (sP m g 150 b1 b2)) = some (T [(true && lt16 (or16 (w16 (w16 m.r4 * 256)) (w16 m.r5))), bl (ix (or16 (w16 (w16 m.r4 * 256)) (w16 m.r5))), (true && lt16 (or16 (w16 (w16 m.r4 * 256)) (w16 m.r5))), bl (ix (or16 (w16 (w16 m.r4 * 256)) (w16 m.r5))), m.fc == true, inb m.r7 && inb (g (ix (or16 (w16 (w16 m.r4 * 256)) (w16 m.r5))))], .int .i64 0, 5, hPm (z96_0 m g) (memL g)) := by kernel_rfl
theorem p96_1 (m : Mc) (g : Nat → Int) (b1 b2 : Int) : endsAt [0, 1] (Ly.run cx3 3000 [(28, true), (0, true), (13, true), (0, true), (1, false), (7, true)] (sP m g 150 b1 b2)) = some ([((true && lt16 (or16 (w16 (w16 m.r4 * 256)) (w16 m.r5))), true), (bl (ix (or16 (w16 (w16 m.r4 * 256)) (w16 m.r5))), true), ((true && lt16 (or16 (w16 (w16 m.r4 * 256)) (w16 m.r5))), true), (bl (ix (or16 (w16 (w16 m.r4 * 256)) (w16 m.r5))), true), (m.fc == true, false), (inb m.r7 && inb (g (ix (or16 (w16 (w16 m.r4 * 256)) (w16 m.r5)))), true)], .int .i64 0, 5, hPm (z96_0 m g) (memL g)) := by kernel_rfl
@[simp] def z97_0 (m : Mc) : Mc := { m with fc := decide (m.r7 - m.r7 - 0 < 0), fp := par ((m.r7 - m.r7 - 0) % 256), fs := decide (128 ≤ (m.r7 - m.r7 - 0) % 256), fx := decide (15 < m.r7 % 16 + 15 - m.r7 % 16 + 1), fz := (m.r7 - m.r7 - 0) % 256 == 0, pc := w16 (m.pc + 1), r7 := (m.r7 - m.r7 - 0) % 256 }
theorem p97_0 (m : Mc) (g : Nat → Int) (b1 b2 : Int) : endsAt [0, 1] (Ly.run cx3 3000 [(22, true), (7, true)] (sP m g 151 b1 b2)) = some (T [m.fc == true, inb m.r7 && inb m.r7], .int .i64 0, 5, hPm (z97_0 m) (memL g)) := by kernel_rfl
theorem p97_1 (m : Mc) (g : Nat → Int) (b1 b2 : Int) : endsAt [0, 1] (Ly.run cx3 3000 [(22, false), (7, true)] (sP m g 151 b1 b2)) = some ([(m.fc == true, false), (inb m.r7 && inb m.r7, true)], .int .i64 0, 5, hPm (z97_0 m) (memL g)) := by kernel_rfl
@[simp] def z98_0 (m : Mc) : Mc := { m with fc := decide (m.r7 - m.r0 - 1 < 0), fp := par ((m.r7 - m.r0 - 1) % 256), fs := decide (128 ≤ (m.r7 - m.r0 - 1) % 256), fx := decide (15 < m.r7 % 16 + 15 - m.r0 % 16 + 0), fz := (m.r7 - m.r0 - 1) % 256 == 0, pc := w16 (m.pc + 1), r7 := (m.r7 - m.r0 - 1) % 256 }
@[simp] def z98_1 (m : Mc) : Mc := { m with fc := decide (m.r7 - m.r0 - 0 < 0), fp := par ((m.r7 - m.r0 - 0) % 256), fs := decide (128 ≤ (m.r7 - m.r0 - 0) % 256), fx := decide (15 < m.r7 % 16 + 15 - m.r0 % 16 + 1), fz := (m.r7 - m.r0 - 0) % 256 == 0, pc := w16 (m.pc + 1), r7 := (m.r7 - m.r0 - 0) % 256 }
theorem p98_0 (m : Mc) (g : Nat → Int) (b1 b2 : Int) : endsAt [0, 1] (Ly.run cx3 3000 [(22, true), (7, true)] (sP m g 152 b1 b2)) = some (T [m.fc == true, inb m.r7 && inb m.r0], .int .i64 0, 5, hPm (z98_0 m) (memL g)) := by kernel_rfl
theorem p98_1 (m : Mc) (g : Nat → Int) (b1 b2 : Int) : endsAt [0, 1] (Ly.run cx3 3000 [(22, false), (7, true)] (sP m g 152 b1 b2)) = some ([(m.fc == true, false), (inb m.r7 && inb m.r0, true)], .int .i64 0, 5, hPm (z98_1 m) (memL g)) := by kernel_rfl
@[simp] def z99_0 (m : Mc) : Mc := { m with fc := decide (m.r7 - m.r1 - 1 < 0), fp := par ((m.r7 - m.r1 - 1) % 256), fs := decide (128 ≤ (m.r7 - m.r1 - 1) % 256), fx := decide (15 < m.r7 % 16 + 15 - m.r1 % 16 + 0), fz := (m.r7 - m.r1 - 1) % 256 == 0, pc := w16 (m.pc + 1), r7 := (m.r7 - m.r1 - 1) % 256 }
@[simp] def z99_1 (m : Mc) : Mc := { m with fc := decide (m.r7 - m.r1 - 0 < 0), fp := par ((m.r7 - m.r1 - 0) % 256), fs := decide (128 ≤ (m.r7 - m.r1 - 0) % 256), fx := decide (15 < m.r7 % 16 + 15 - m.r1 % 16 + 1), fz := (m.r7 - m.r1 - 0) % 256 == 0, pc := w16 (m.pc + 1), r7 := (m.r7 - m.r1 - 0) % 256 }
theorem p99_0 (m : Mc) (g : Nat → Int) (b1 b2 : Int) : endsAt [0, 1] (Ly.run cx3 3000 [(22, true), (7, true)] (sP m g 153 b1 b2)) = some (T [m.fc == true, inb m.r7 && inb m.r1], .int .i64 0, 5, hPm (z99_0 m) (memL g)) := by kernel_rfl
theorem p99_1 (m : Mc) (g : Nat → Int) (b1 b2 : Int) : endsAt [0, 1] (Ly.run cx3 3000 [(22, false), (7, true)] (sP m g 153 b1 b2)) = some ([(m.fc == true, false), (inb m.r7 && inb m.r1, true)], .int .i64 0, 5, hPm (z99_1 m) (memL g)) := by kernel_rfl
@[simp] def z9a_0 (m : Mc) : Mc := { m with fc := decide (m.r7 - m.r2 - 1 < 0), fp := par ((m.r7 - m.r2 - 1) % 256), fs := decide (128 ≤ (m.r7 - m.r2 - 1) % 256), fx := decide (15 < m.r7 % 16 + 15 - m.r2 % 16 + 0), fz := (m.r7 - m.r2 - 1) % 256 == 0, pc := w16 (m.pc + 1), r7 := (m.r7 - m.r2 - 1) % 256 }
@[simp] def z9a_1 (m : Mc) : Mc := { m with fc := decide (m.r7 - m.r2 - 0 < 0), fp := par ((m.r7 - m.r2 - 0) % 256), fs := decide (128 ≤ (m.r7 - m.r2 - 0) % 256), fx := decide (15 < m.r7 % 16 + 15 - m.r2 % 16 + 1), fz := (m.r7 - m.r2 - 0) % 256 == 0, pc := w16 (m.pc + 1), r7 := (m.r7 - m.r2 - 0) % 256 }
theorem p9a_0 (m : Mc) (g : Nat → Int) (b1 b2 : Int) : endsAt [0, 1] (Ly.run cx3 3000 [(22, true), (7, true)] (sP m g 154 b1 b2)) = some (T [m.fc == true, inb m.r7 && inb m.r2], .int .i64 0, 5, hPm (z9a_0 m) (memL g)) := by kernel_rfl
theorem p9a_1 (m : Mc) (g : Nat → Int) (b1 b2 : Int) : endsAt [0, 1] (Ly.run cx3 3000 [(22, false), (7, true)] (sP m g 154 b1 b2)) = some ([(m.fc == true, false), (inb m.r7 && inb m.r2, true)], .int .i64 0, 5, hPm (z9a_1 m) (memL g)) := by kernel_rfl
@[simp] def z9b_0 (m : Mc) : Mc := { m with fc := decide (m.r7 - m.r3 - 1 < 0), fp := par ((m.r7 - m.r3 - 1) % 256), fs := decide (128 ≤ (m.r7 - m.r3 - 1) % 256), fx := decide (15 < m.r7 % 16 + 15 - m.r3 % 16 + 0), fz := (m.r7 - m.r3 - 1) % 256 == 0, pc := w16 (m.pc + 1), r7 := (m.r7 - m.r3 - 1) % 256 }
@[simp] def z9b_1 (m : Mc) : Mc := { m with fc := decide (m.r7 - m.r3 - 0 < 0), fp := par ((m.r7 - m.r3 - 0) % 256), fs := decide (128 ≤ (m.r7 - m.r3 - 0) % 256), fx := decide (15 < m.r7 % 16 + 15 - m.r3 % 16 + 1), fz := (m.r7 - m.r3 - 0) % 256 == 0, pc := w16 (m.pc + 1), r7 := (m.r7 - m.r3 - 0) % 256 }
theorem p9b_0 (m : Mc) (g : Nat → Int) (b1 b2 : Int) : endsAt [0, 1] (Ly.run cx3 3000 [(22, true), (7, true)] (sP m g 155 b1 b2)) = some (T [m.fc == true, inb m.r7 && inb m.r3], .int .i64 0, 5, hPm (z9b_0 m) (memL g)) := by kernel_rfl
theorem p9b_1 (m : Mc) (g : Nat → Int) (b1 b2 : Int) : endsAt [0, 1] (Ly.run cx3 3000 [(22, false), (7, true)] (sP m g 155 b1 b2)) = some ([(m.fc == true, false), (inb m.r7 && inb m.r3, true)], .int .i64 0, 5, hPm (z9b_1 m) (memL g)) := by kernel_rfl
@[simp] def z9c_0 (m : Mc) : Mc := { m with fc := decide (m.r7 - m.r4 - 1 < 0), fp := par ((m.r7 - m.r4 - 1) % 256), fs := decide (128 ≤ (m.r7 - m.r4 - 1) % 256), fx := decide (15 < m.r7 % 16 + 15 - m.r4 % 16 + 0), fz := (m.r7 - m.r4 - 1) % 256 == 0, pc := w16 (m.pc + 1), r7 := (m.r7 - m.r4 - 1) % 256 }
@[simp] def z9c_1 (m : Mc) : Mc := { m with fc := decide (m.r7 - m.r4 - 0 < 0), fp := par ((m.r7 - m.r4 - 0) % 256), fs := decide (128 ≤ (m.r7 - m.r4 - 0) % 256), fx := decide (15 < m.r7 % 16 + 15 - m.r4 % 16 + 1), fz := (m.r7 - m.r4 - 0) % 256 == 0, pc := w16 (m.pc + 1), r7 := (m.r7 - m.r4 - 0) % 256 }
theorem p9c_0 (m : Mc) (g : Nat → Int) (b1 b2 : Int) : endsAt [0, 1] (Ly.run cx3 3000 [(22, true), (7, true)] (sP m g 156 b1 b2)) = some (T [m.fc == true, inb m.r7 && inb m.r4], .int .i64 0, 5, hPm (z9c_0 m) (memL g)) := by kernel_rfl
theorem p9c_1 (m : Mc) (g : Nat → Int) (b1 b2 : Int) : endsAt [0, 1] (Ly.run cx3 3000 [(22, false), (7, true)] (sP m g 156 b1 b2)) = some ([(m.fc == true, false), (inb m.r7 && inb m.r4, true)], .int .i64 0, 5, hPm (z9c_1 m) (memL g)) := by kernel_rfl
@[simp] def z9d_0 (m : Mc) : Mc := { m with fc := decide (m.r7 - m.r5 - 1 < 0), fp := par ((m.r7 - m.r5 - 1) % 256), fs := decide (128 ≤ (m.r7 - m.r5 - 1) % 256), fx := decide (15 < m.r7 % 16 + 15 - m.r5 % 16 + 0), fz := (m.r7 - m.r5 - 1) % 256 == 0, pc := w16 (m.pc + 1), r7 := (m.r7 - m.r5 - 1) % 256 }
@[simp] def z9d_1 (m : Mc) : Mc := { m with fc := decide (m.r7 - m.r5 - 0 < 0), fp := par ((m.r7 - m.r5 - 0) % 256), fs := decide (128 ≤ (m.r7 - m.r5 - 0) % 256), fx := decide (15 < m.r7 % 16 + 15 - m.r5 % 16 + 1), fz := (m.r7 - m.r5 - 0) % 256 == 0, pc := w16 (m.pc + 1), r7 := (m.r7 - m.r5 - 0) % 256 }
theorem p9d_0 (m : Mc) (g : Nat → Int) (b1 b2 : Int) : endsAt [0, 1] (Ly.run cx3 3000 [(22, true), (7, true)] (sP m g 157 b1 b2)) = some (T [m.fc == true, inb m.r7 && inb m.r5], .int .i64 0, 5, hPm (z9d_0 m) (memL g)) := by kernel_rfl
theorem p9d_1 (m : Mc) (g : Nat → Int) (b1 b2 : Int) : endsAt [0, 1] (Ly.run cx3 3000 [(22, false), (7, true)] (sP m g 157 b1 b2)) = some ([(m.fc == true, false), (inb m.r7 && inb m.r5, true)], .int .i64 0, 5, hPm (z9d_1 m) (memL g)) := by kernel_rfl
@[simp] def z9e_0 (m : Mc) (g : Nat → Int) : Mc := { m with fc := decide (m.r7 - g (ix (or16 (w16 (w16 m.r4 * 256)) (w16 m.r5))) - 1 < 0), fp := par ((m.r7 - g (ix (or16 (w16 (w16 m.r4 * 256)) (w16 m.r5))) - 1) % 256), fs := decide (128 ≤ (m.r7 - g (ix (or16 (w16 (w16 m.r4 * 256)) (w16 m.r5))) - 1) % 256), fx := decide (15 < m.r7 % 16 + 15 - g (ix (or16 (w16 (w16 m.r4 * 256)) (w16 m.r5))) % 16 + 0), fz := (m.r7 - g (ix (or16 (w16 (w16 m.r4 * 256)) (w16 m.r5))) - 1) % 256 == 0, pc := w16 (m.pc + 1), r7 := (m.r7 - g (ix (or16 (w16 (w16 m.r4 * 256)) (w16 m.r5))) - 1) % 256 }
@[simp] def z9e_1 (m : Mc) (g : Nat → Int) : Mc := { m with fc := decide (m.r7 - g (ix (or16 (w16 (w16 m.r4 * 256)) (w16 m.r5))) - 0 < 0), fp := par ((m.r7 - g (ix (or16 (w16 (w16 m.r4 * 256)) (w16 m.r5))) - 0) % 256), fs := decide (128 ≤ (m.r7 - g (ix (or16 (w16 (w16 m.r4 * 256)) (w16 m.r5))) - 0) % 256), fx := decide (15 < m.r7 % 16 + 15 - g (ix (or16 (w16 (w16 m.r4 * 256)) (w16 m.r5))) % 16 + 1), fz := (m.r7 - g (ix (or16 (w16 (w16 m.r4 * 256)) (w16 m.r5))) - 0) % 256 == 0, pc := w16 (m.pc + 1), r7 := (m.r7 - g (ix (or16 (w16 (w16 m.r4 * 256)) (w16 m.r5))) - 0) % 256 }
theorem p9e_0 (m : Mc) (g : Nat → Int) (b1 b2 : Int) : endsAt [0, 1] (Ly.run cx3 3000 [(28, true), (0, true), (13, true), (0, true), (1, true), (7, true)] (sP m g 158 b1 b2)) = some (T [(true && lt16 (or16 (w16 (w16 m.r4 * 256)) (w16 m.r5))), bl (ix (or16 (w16 (w16 m.r4 * 256)) (w16 m.r5))), (true && lt16 (or16 (w16 (w16 m.r4 * 256)) (w16 m.r5))), bl (ix (or16 (w16 (w16 m.r4 * 256)) (w16 m.r5))), m.fc == true, inb m.r7 && inb (g (ix (or16 (w16 (w16 m.r4 * 256)) (w16 m.r5))))], .int .i64 0, 5, hPm (z9e_0 m g) (memL g)) := by kernel_rfl
theorem p9e_1 (m : Mc) (g : Nat → Int) (b1 b2 : Int) : endsAt [0, 1] (Ly.run cx3 3000 [(28, true), (0, true), (13, true), (0, true), (1, false), (7, true)] (sP m g 158 b1 b2)) = some ([((true && lt16 (or16 (w16 (w16 m.r4 * 256)) (w16 m.r5))), true), (bl (ix (or16 (w16 (w16 m.r4 * 256)) (w16 m.r5))), true), ((true && lt16 (or16 (w16 (w16 m.r4 * 256)) (w16 m.r5))), true), (bl (ix (or16 (w16 (w16 m.r4 * 256)) (w16 m.r5))), true), (m.fc == true, false), (inb m.r7 && inb (g (ix (or16 (w16 (w16 m.r4 * 256)) (w16 m.r5)))), true)], .int .i64 0, 5, hPm (z9e_1 m g) (memL g)) := by kernel_rfl
@[simp] def z9f_0 (m : Mc) : Mc := { m with fc := decide (m.r7 - m.r7 - 1 < 0), fp := par ((m.r7 - m.r7 - 1) % 256), fs := decide (128 ≤ (m.r7 - m.r7 - 1) % 256), fx := decide (15 < m.r7 % 16 + 15 - m.r7 % 16 + 0), fz := (m.r7 - m.r7 - 1) % 256 == 0, pc := w16 (m.pc + 1), r7 := (m.r7 - m.r7 - 1) % 256 }
@[simp] def z9f_1 (m : Mc) : Mc := { m with fc := decide (m.r7 - m.r7 - 0 < 0), fp := par ((m.r7 - m.r7 - 0) % 256), fs := decide (128 ≤ (m.r7 - m.r7 - 0) % 256), fx := decide (15 < m.r7 % 16 + 15 - m.r7 % 16 + 1), fz := (m.r7 - m.r7 - 0) % 256 == 0, pc := w16 (m.pc + 1), r7 := (m.r7 - m.r7 - 0) % 256 }
theorem p9f_0 (m : Mc) (g : Nat → Int) (b1 b2 : Int) : endsAt [0, 1] (Ly.run cx3 3000 [(22, true), (7, true)] (sP m g 159 b1 b2)) = some (T [m.fc == true, inb m.r7 && inb m.r7], .int .i64 0, 5, hPm (z9f_0 m) (memL g)) := by kernel_rfl
theorem p9f_1 (m : Mc) (g : Nat → Int) (b1 b2 : Int) : endsAt [0, 1] (Ly.run cx3 3000 [(22, false), (7, true)] (sP m g 159 b1 b2)) = some ([(m.fc == true, false), (inb m.r7 && inb m.r7, true)], .int .i64 0, 5, hPm (z9f_1 m) (memL g)) := by kernel_rfl
end Go.Proofs.Ytdjmpilegommlaa
end
