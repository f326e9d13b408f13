/- Part 9 of the texts that the law needs, laid together. By program (pack.py). -/
import Derived.Test.YtdjmpilegommlaaPtc
import Derived.Test.YtdjmpilegommlaaPtd
import Derived.Test.YtdjmpilegommlaaPtf
import Derived.Test.YtdjmpilegommlaaPtg
import Derived.Test.YtdjmpilegommlaaPth
import Derived.KernelRfl
set_option linter.unusedVariables false
set_option linter.unusedSimpArgs false
noncomputable section
namespace Go.Proofs.Ytdjmpilegommlaa
open Go Go.Ly Go.RowKit
theorem tc0 {m : Mc} {g : Nat → Int} {s z x p c : Bool} (hm : m.Ok) (hg : ∀ e, B8 (g e)) (hh : m.halt = false) (h0 : g (ix m.pc) = 192) (hz : m.fz = z) : Tw 0 m (setF m s z x p c) g := by
  subst hz
  obtain ⟨r0, r1, r2, r3, r4, r5, r7, sp, pc⟩ := id hm
  have hm2 := setF_ok (s := s) (z := m.fz) (x := x) (p := p) (c := c) hm
  rcases Bool.eq_false_or_eq_true m.fz with hf | hf
  · exact ⟨_, _, _, _, 0, joinP hm hh h0 (pc0_1 m g _ _) (by simp [*]) (by decide) (eP (.inl rfl)), joinP hm2 hh h0 (pc0_1 (setF m _ _ _ _ _) g _ _) (by simp [setF, *]) (by decide) (eP (.inl rfl)), ⟨rfl, rfl, rfl, rfl, rfl, rfl, rfl, rfl, rfl, rfl⟩, .inr (.inr (.inr ⟨rfl, ⟨⟨rfl, rfl, rfl, rfl⟩, rfl⟩, ⟨rfl, rfl, rfl, rfl⟩, rfl⟩))⟩
  · exact ⟨_, _, _, _, 0, joinP hm hh h0 (pc0_0 m g _ _) (by simp [*]) (by decide) (eP (.inl rfl)), joinP hm2 hh h0 (pc0_0 (setF m _ _ _ _ _) g _ _) (by simp [setF, *]) (by decide) (eP (.inl rfl)), ⟨rfl, rfl, rfl, rfl, rfl, rfl, rfl, rfl, rfl, rfl⟩, .inr (.inr (.inr ⟨rfl, ⟨⟨rfl, rfl, rfl, rfl⟩, rfl⟩, ⟨rfl, rfl, rfl, rfl⟩, rfl⟩))⟩
theorem tc1 {m : Mc} {g : Nat → Int} {s z x p c : Bool} (hm : m.Ok) (hg : ∀ e, B8 (g e)) (hh : m.halt = false) (h0 : g (ix m.pc) = 193) : Tw 0 m (setF m s z x p c) g := by
  obtain ⟨r0, r1, r2, r3, r4, r5, r7, sp, pc⟩ := id hm
  have hm2 := setF_ok (s := s) (z := z) (x := x) (p := p) (c := c) hm
  exact ⟨_, _, _, _, 0, joinP hm hh h0 (pc1_0 m g _ _) (by simp [*]) (by decide) (eP (.inl rfl)), joinP hm2 hh h0 (pc1_0 (setF m _ _ _ _ _) g _ _) (by simp [setF, *]) (by decide) (eP (.inl rfl)), ⟨rfl, rfl, rfl, rfl, rfl, rfl, rfl, rfl, rfl, rfl⟩, .inr (.inr (.inr ⟨rfl, ⟨⟨rfl, rfl, rfl, rfl⟩, rfl⟩, ⟨rfl, rfl, rfl, rfl⟩, rfl⟩))⟩
theorem tc2 {m : Mc} {g : Nat → Int} {s z x p c : Bool} (hm : m.Ok) (hg : ∀ e, B8 (g e)) (hh : m.halt = false) (h0 : g (ix m.pc) = 194) (hz : m.fz = z) : Tw 0 m (setF m s z x p c) g := by
  subst hz
  obtain ⟨r0, r1, r2, r3, r4, r5, r7, sp, pc⟩ := id hm
  have hm2 := setF_ok (s := s) (z := m.fz) (x := x) (p := p) (c := c) hm
  rcases Bool.eq_false_or_eq_true m.fz with hf | hf
  · exact ⟨_, _, _, _, 0, joinP hm hh h0 (pc2_1 m g _ _) (by simp [*]) (by decide) (eP (.inl rfl)), joinP hm2 hh h0 (pc2_1 (setF m _ _ _ _ _) g _ _) (by simp [setF, *]) (by decide) (eP (.inl rfl)), ⟨rfl, rfl, rfl, rfl, rfl, rfl, rfl, rfl, rfl, rfl⟩, .inr (.inr (.inr ⟨rfl, ⟨⟨rfl, rfl, rfl, rfl⟩, rfl⟩, ⟨rfl, rfl, rfl, rfl⟩, rfl⟩))⟩
  · exact ⟨_, _, _, _, 0, joinP hm hh h0 (pc2_0 m g _ _) (by simp [*]) (by decide) (eP (.inl rfl)), joinP hm2 hh h0 (pc2_0 (setF m _ _ _ _ _) g _ _) (by simp [setF, *]) (by decide) (eP (.inl rfl)), ⟨rfl, rfl, rfl, rfl, rfl, rfl, rfl, rfl, rfl, rfl⟩, .inr (.inr (.inr ⟨rfl, ⟨⟨rfl, rfl, rfl, rfl⟩, rfl⟩, ⟨rfl, rfl, rfl, rfl⟩, rfl⟩))⟩
theorem tc3 {m : Mc} {g : Nat → Int} {s z x p c : Bool} (hm : m.Ok) (hg : ∀ e, B8 (g e)) (hh : m.halt = false) (h0 : g (ix m.pc) = 195) : Tw 0 m (setF m s z x p c) g := by
  obtain ⟨r0, r1, r2, r3, r4, r5, r7, sp, pc⟩ := id hm
  have hm2 := setF_ok (s := s) (z := z) (x := x) (p := p) (c := c) hm
  exact ⟨_, _, _, _, 0, joinP hm hh h0 (pc3_0 m g _ _) (by simp [*]) (by decide) (eP (.inl rfl)), joinP hm2 hh h0 (pc3_0 (setF m _ _ _ _ _) g _ _) (by simp [setF, *]) (by decide) (eP (.inl rfl)), ⟨rfl, rfl, rfl, rfl, rfl, rfl, rfl, rfl, rfl, rfl⟩, .inr (.inr (.inr ⟨rfl, ⟨⟨rfl, rfl, rfl, rfl⟩, rfl⟩, ⟨rfl, rfl, rfl, rfl⟩, rfl⟩))⟩
theorem tc4 {m : Mc} {g : Nat → Int} {s z x p c : Bool} (hm : m.Ok) (hg : ∀ e, B8 (g e)) (hh : m.halt = false) (h0 : g (ix m.pc) = 196) (hz : m.fz = z) : Tw 0 m (setF m s z x p c) g := by
  subst hz
  obtain ⟨r0, r1, r2, r3, r4, r5, r7, sp, pc⟩ := id hm
  have hm2 := setF_ok (s := s) (z := m.fz) (x := x) (p := p) (c := c) hm
  rcases Bool.eq_false_or_eq_true m.fz with hf | hf
  · exact ⟨_, _, _, _, 0, joinP hm hh h0 (pc4_1 m g _ _) (by simp [*]) (by decide) (eP (.inl rfl)), joinP hm2 hh h0 (pc4_1 (setF m _ _ _ _ _) g _ _) (by simp [setF, *]) (by decide) (eP (.inl rfl)), ⟨rfl, rfl, rfl, rfl, rfl, rfl, rfl, rfl, rfl, rfl⟩, .inr (.inr (.inr ⟨rfl, ⟨⟨rfl, rfl, rfl, rfl⟩, rfl⟩, ⟨rfl, rfl, rfl, rfl⟩, rfl⟩))⟩
  · exact ⟨_, _, _, _, 0, joinP hm hh h0 (pc4_0 m g _ _) (by simp [*]) (by decide) (eP (m2s rfl rfl rfl rfl)), joinP hm2 hh h0 (pc4_0 (setF m _ _ _ _ _) g _ _) (by simp [setF, *]) (by decide) (eP (m2s rfl rfl rfl rfl)), ⟨rfl, rfl, rfl, rfl, rfl, rfl, rfl, rfl, rfl, rfl⟩, .inr (.inr (.inr ⟨rfl, ⟨⟨rfl, rfl, rfl, rfl⟩, rfl⟩, ⟨rfl, rfl, rfl, rfl⟩, rfl⟩))⟩
theorem tc5 {m : Mc} {g : Nat → Int} {s z x p c : Bool} (hm : m.Ok) (hg : ∀ e, B8 (g e)) (hh : m.halt = false) (h0 : g (ix m.pc) = 197) : Tw 0 m (setF m s z x p c) g := by
  obtain ⟨r0, r1, r2, r3, r4, r5, r7, sp, pc⟩ := id hm
  have hm2 := setF_ok (s := s) (z := z) (x := x) (p := p) (c := c) hm
  exact ⟨_, _, _, _, 0, joinP hm hh h0 (pc5_0 m g _ _) (by simp [*]) (by decide) (eP (m2s rfl rfl rfl rfl)), joinP hm2 hh h0 (pc5_0 (setF m _ _ _ _ _) g _ _) (by simp [setF, *]) (by decide) (eP (m2s rfl rfl rfl rfl)), ⟨rfl, rfl, rfl, rfl, rfl, rfl, rfl, rfl, rfl, rfl⟩, .inr (.inr (.inr ⟨rfl, ⟨⟨rfl, rfl, rfl, rfl⟩, rfl⟩, ⟨rfl, rfl, rfl, rfl⟩, rfl⟩))⟩
theorem tc6 {m : Mc} {g : Nat → Int} {s z x p c : Bool} (hm : m.Ok) (hg : ∀ e, B8 (g e)) (hh : m.halt = false) (h0 : g (ix m.pc) = 198) : Tw 31 m (setF m s z x p c) g := by
  obtain ⟨r0, r1, r2, r3, r4, r5, r7, sp, pc⟩ := id hm
  have hm2 := setF_ok (s := s) (z := z) (x := x) (p := p) (c := c) hm
  rcases Bool.eq_false_or_eq_true m.fc with hf | hf <;> cases c
  · exact ⟨_, _, _, _, 0, joinP hm hh h0 (pc6_0 m g _ _) (by simp [*]) (by decide) (eP (.inl rfl)), joinP hm2 hh h0 (pc6_1 (setF m _ _ _ _ _) g _ _) (by simp [setF, *]) (by decide) (eP (.inl rfl)), ⟨rfl, rfl, rfl, rfl, rfl, rfl, rfl, rfl, rfl, rfl⟩, .inl ⟨rfl, ⟨rfl, rfl, rfl, rfl⟩, rfl⟩⟩
  · exact ⟨_, _, _, _, 0, joinP hm hh h0 (pc6_0 m g _ _) (by simp [*]) (by decide) (eP (.inl rfl)), joinP hm2 hh h0 (pc6_0 (setF m _ _ _ _ _) g _ _) (by simp [setF, *]) (by decide) (eP (.inl rfl)), ⟨rfl, rfl, rfl, rfl, rfl, rfl, rfl, rfl, rfl, rfl⟩, .inl ⟨rfl, ⟨rfl, rfl, rfl, rfl⟩, rfl⟩⟩
  · exact ⟨_, _, _, _, 0, joinP hm hh h0 (pc6_1 m g _ _) (by simp [*]) (by decide) (eP (.inl rfl)), joinP hm2 hh h0 (pc6_1 (setF m _ _ _ _ _) g _ _) (by simp [setF, *]) (by decide) (eP (.inl rfl)), ⟨rfl, rfl, rfl, rfl, rfl, rfl, rfl, rfl, rfl, rfl⟩, .inl ⟨rfl, ⟨rfl, rfl, rfl, rfl⟩, rfl⟩⟩
  · exact ⟨_, _, _, _, 0, joinP hm hh h0 (pc6_1 m g _ _) (by simp [*]) (by decide) (eP (.inl rfl)), joinP hm2 hh h0 (pc6_0 (setF m _ _ _ _ _) g _ _) (by simp [setF, *]) (by decide) (eP (.inl rfl)), ⟨rfl, rfl, rfl, rfl, rfl, rfl, rfl, rfl, rfl, rfl⟩, .inl ⟨rfl, ⟨rfl, rfl, rfl, rfl⟩, rfl⟩⟩
theorem tc7 {m : Mc} {g : Nat → Int} {s z x p c : Bool} (hm : m.Ok) (hg : ∀ e, B8 (g e)) (hh : m.halt = false) (h0 : g (ix m.pc) = 199) : Tw 0 m (setF m s z x p c) g := by
  obtain ⟨r0, r1, r2, r3, r4, r5, r7, sp, pc⟩ := id hm
  have hm2 := setF_ok (s := s) (z := z) (x := x) (p := p) (c := c) hm
  exact ⟨_, _, _, _, 0, joinP hm hh h0 (pc7_0 m g _ _) (by simp [*]) (by decide) (eP (m2s rfl rfl rfl rfl)), joinP hm2 hh h0 (pc7_0 (setF m _ _ _ _ _) g _ _) (by simp [setF, *]) (by decide) (eP (m2s rfl rfl rfl rfl)), ⟨rfl, rfl, rfl, rfl, rfl, rfl, rfl, rfl, rfl, rfl⟩, .inr (.inr (.inr ⟨rfl, ⟨⟨rfl, rfl, rfl, rfl⟩, rfl⟩, ⟨rfl, rfl, rfl, rfl⟩, rfl⟩))⟩
theorem tc8 {m : Mc} {g : Nat → Int} {s z x p c : Bool} (hm : m.Ok) (hg : ∀ e, B8 (g e)) (hh : m.halt = false) (h0 : g (ix m.pc) = 200) (hz : m.fz = z) : Tw 0 m (setF m s z x p c) g := by
  subst hz
  obtain ⟨r0, r1, r2, r3, r4, r5, r7, sp, pc⟩ := id hm
  have hm2 := setF_ok (s := s) (z := m.fz) (x := x) (p := p) (c := c) hm
  rcases Bool.eq_false_or_eq_true m.fz with hf | hf
  · exact ⟨_, _, _, _, 0, joinP hm hh h0 (pc8_0 m g _ _) (by simp [*]) (by decide) (eP (.inl rfl)), joinP hm2 hh h0 (pc8_0 (setF m _ _ _ _ _) g _ _) (by simp [setF, *]) (by decide) (eP (.inl rfl)), ⟨rfl, rfl, rfl, rfl, rfl, rfl, rfl, rfl, rfl, rfl⟩, .inr (.inr (.inr ⟨rfl, ⟨⟨rfl, rfl, rfl, rfl⟩, rfl⟩, ⟨rfl, rfl, rfl, rfl⟩, rfl⟩))⟩
  · exact ⟨_, _, _, _, 0, joinP hm hh h0 (pc8_1 m g _ _) (by simp [*]) (by decide) (eP (.inl rfl)), joinP hm2 hh h0 (pc8_1 (setF m _ _ _ _ _) g _ _) (by simp [setF, *]) (by decide) (eP (.inl rfl)), ⟨rfl, rfl, rfl, rfl, rfl, rfl, rfl, rfl, rfl, rfl⟩, .inr (.inr (.inr ⟨rfl, ⟨⟨rfl, rfl, rfl, rfl⟩, rfl⟩, ⟨rfl, rfl, rfl, rfl⟩, rfl⟩))⟩
theorem tc9 {m : Mc} {g : Nat → Int} {s z x p c : Bool} (hm : m.Ok) (hg : ∀ e, B8 (g e)) (hh : m.halt = false) (h0 : g (ix m.pc) = 201) : Tw 0 m (setF m s z x p c) g := by
  obtain ⟨r0, r1, r2, r3, r4, r5, r7, sp, pc⟩ := id hm
  have hm2 := setF_ok (s := s) (z := z) (x := x) (p := p) (c := c) hm
  exact ⟨_, _, _, _, 0, joinP hm hh h0 (pc9_0 m g _ _) (by simp [*]) (by decide) (eP (.inl rfl)), joinP hm2 hh h0 (pc9_0 (setF m _ _ _ _ _) g _ _) (by simp [setF, *]) (by decide) (eP (.inl rfl)), ⟨rfl, rfl, rfl, rfl, rfl, rfl, rfl, rfl, rfl, rfl⟩, .inr (.inr (.inr ⟨rfl, ⟨⟨rfl, rfl, rfl, rfl⟩, rfl⟩, ⟨rfl, rfl, rfl, rfl⟩, rfl⟩))⟩
theorem tca {m : Mc} {g : Nat → Int} {s z x p c : Bool} (hm : m.Ok) (hg : ∀ e, B8 (g e)) (hh : m.halt = false) (h0 : g (ix m.pc) = 202) (hz : m.fz = z) : Tw 0 m (setF m s z x p c) g := by
  subst hz
  obtain ⟨r0, r1, r2, r3, r4, r5, r7, sp, pc⟩ := id hm
  have hm2 := setF_ok (s := s) (z := m.fz) (x := x) (p := p) (c := c) hm
  rcases Bool.eq_false_or_eq_true m.fz with hf | hf
  · exact ⟨_, _, _, _, 0, joinP hm hh h0 (pca_0 m g _ _) (by simp [*]) (by decide) (eP (.inl rfl)), joinP hm2 hh h0 (pca_0 (setF m _ _ _ _ _) g _ _) (by simp [setF, *]) (by decide) (eP (.inl rfl)), ⟨rfl, rfl, rfl, rfl, rfl, rfl, rfl, rfl, rfl, rfl⟩, .inr (.inr (.inr ⟨rfl, ⟨⟨rfl, rfl, rfl, rfl⟩, rfl⟩, ⟨rfl, rfl, rfl, rfl⟩, rfl⟩))⟩
  · exact ⟨_, _, _, _, 0, joinP hm hh h0 (pca_1 m g _ _) (by simp [*]) (by decide) (eP (.inl rfl)), joinP hm2 hh h0 (pca_1 (setF m _ _ _ _ _) g _ _) (by simp [setF, *]) (by decide) (eP (.inl rfl)), ⟨rfl, rfl, rfl, rfl, rfl, rfl, rfl, rfl, rfl, rfl⟩, .inr (.inr (.inr ⟨rfl, ⟨⟨rfl, rfl, rfl, rfl⟩, rfl⟩, ⟨rfl, rfl, rfl, rfl⟩, rfl⟩))⟩
theorem tcc {m : Mc} {g : Nat → Int} {s z x p c : Bool} (hm : m.Ok) (hg : ∀ e, B8 (g e)) (hh : m.halt = false) (h0 : g (ix m.pc) = 204) (hz : m.fz = z) : Tw 0 m (setF m s z x p c) g := by
  subst hz
  obtain ⟨r0, r1, r2, r3, r4, r5, r7, sp, pc⟩ := id hm
  have hm2 := setF_ok (s := s) (z := m.fz) (x := x) (p := p) (c := c) hm
  rcases Bool.eq_false_or_eq_true m.fz with hf | hf
  · exact ⟨_, _, _, _, 0, joinP hm hh h0 (pcc_0 m g _ _) (by simp [*]) (by decide) (eP (m2s rfl rfl rfl rfl)), joinP hm2 hh h0 (pcc_0 (setF m _ _ _ _ _) g _ _) (by simp [setF, *]) (by decide) (eP (m2s rfl rfl rfl rfl)), ⟨rfl, rfl, rfl, rfl, rfl, rfl, rfl, rfl, rfl, rfl⟩, .inr (.inr (.inr ⟨rfl, ⟨⟨rfl, rfl, rfl, rfl⟩, rfl⟩, ⟨rfl, rfl, rfl, rfl⟩, rfl⟩))⟩
  · exact ⟨_, _, _, _, 0, joinP hm hh h0 (pcc_1 m g _ _) (by simp [*]) (by decide) (eP (.inl rfl)), joinP hm2 hh h0 (pcc_1 (setF m _ _ _ _ _) g _ _) (by simp [setF, *]) (by decide) (eP (.inl rfl)), ⟨rfl, rfl, rfl, rfl, rfl, rfl, rfl, rfl, rfl, rfl⟩, .inr (.inr (.inr ⟨rfl, ⟨⟨rfl, rfl, rfl, rfl⟩, rfl⟩, ⟨rfl, rfl, rfl, rfl⟩, rfl⟩))⟩
theorem tcd {m : Mc} {g : Nat → Int} {s z x p c : Bool} (hm : m.Ok) (hg : ∀ e, B8 (g e)) (hh : m.halt = false) (h0 : g (ix m.pc) = 205) : Tw 0 m (setF m s z x p c) g := by
  obtain ⟨r0, r1, r2, r3, r4, r5, r7, sp, pc⟩ := id hm
  have hm2 := setF_ok (s := s) (z := z) (x := x) (p := p) (c := c) hm
  exact ⟨_, _, _, _, 0, joinP hm hh h0 (pcd_0 m g _ _) (by simp [*]) (by decide) (eP (m2s rfl rfl rfl rfl)), joinP hm2 hh h0 (pcd_0 (setF m _ _ _ _ _) g _ _) (by simp [setF, *]) (by decide) (eP (m2s rfl rfl rfl rfl)), ⟨rfl, rfl, rfl, rfl, rfl, rfl, rfl, rfl, rfl, rfl⟩, .inr (.inr (.inr ⟨rfl, ⟨⟨rfl, rfl, rfl, rfl⟩, rfl⟩, ⟨rfl, rfl, rfl, rfl⟩, rfl⟩))⟩
theorem tce {m : Mc} {g : Nat → Int} {s z x p c : Bool} (hm : m.Ok) (hg : ∀ e, B8 (g e)) (hh : m.halt = false) (h0 : g (ix m.pc) = 206) (hc : m.fc = c) : Tw 31 m (setF m s z x p c) g := by
  subst hc
  obtain ⟨r0, r1, r2, r3, r4, r5, r7, sp, pc⟩ := id hm
  have hm2 := setF_ok (s := s) (z := z) (x := x) (p := p) (c := m.fc) hm
  rcases Bool.eq_false_or_eq_true m.fc with hf | hf
  · exact ⟨_, _, _, _, 0, joinP hm hh h0 (pce_0 m g _ _) (by simp [*]) (by decide) (eP (.inl rfl)), joinP hm2 hh h0 (pce_0 (setF m _ _ _ _ _) g _ _) (by simp [setF, *]) (by decide) (eP (.inl rfl)), ⟨rfl, rfl, rfl, rfl, rfl, rfl, rfl, rfl, rfl, rfl⟩, .inl ⟨rfl, ⟨rfl, rfl, rfl, rfl⟩, rfl⟩⟩
  · exact ⟨_, _, _, _, 0, joinP hm hh h0 (pce_1 m g _ _) (by simp [*]) (by decide) (eP (.inl rfl)), joinP hm2 hh h0 (pce_1 (setF m _ _ _ _ _) g _ _) (by simp [setF, *]) (by decide) (eP (.inl rfl)), ⟨rfl, rfl, rfl, rfl, rfl, rfl, rfl, rfl, rfl, rfl⟩, .inl ⟨rfl, ⟨rfl, rfl, rfl, rfl⟩, rfl⟩⟩
theorem tcf {m : Mc} {g : Nat → Int} {s z x p c : Bool} (hm : m.Ok) (hg : ∀ e, B8 (g e)) (hh : m.halt = false) (h0 : g (ix m.pc) = 207) : Tw 0 m (setF m s z x p c) g := by
  obtain ⟨r0, r1, r2, r3, r4, r5, r7, sp, pc⟩ := id hm
  have hm2 := setF_ok (s := s) (z := z) (x := x) (p := p) (c := c) hm
  exact ⟨_, _, _, _, 0, joinP hm hh h0 (pcf_0 m g _ _) (by simp [*]) (by decide) (eP (m2s rfl rfl rfl rfl)), joinP hm2 hh h0 (pcf_0 (setF m _ _ _ _ _) g _ _) (by simp [setF, *]) (by decide) (eP (m2s rfl rfl rfl rfl)), ⟨rfl, rfl, rfl, rfl, rfl, rfl, rfl, rfl, rfl, rfl⟩, .inr (.inr (.inr ⟨rfl, ⟨⟨rfl, rfl, rfl, rfl⟩, rfl⟩, ⟨rfl, rfl, rfl, rfl⟩, rfl⟩))⟩
end Go.Proofs.Ytdjmpilegommlaa
namespace Go.Proofs.Ytdjmpilegommlaa
open Go Go.Ly Go.RowKit
@[simp] def zd0_0 (m : Mc) (g : Nat → Int) : Mc := { m with pc := or16 (w16 (g (ix (w16 (w16 (m.sp + 2) - 2))))) (w16 (w16 (g (ix (w16 (w16 (w16 (m.sp + 2) - 2) + 1)))) * 256)), sp := w16 (m.sp + 2) }
theorem pd0_0 (m : Mc) (g : Nat → Int) (b1 b2 : Int) : endsAt [0, 1] (Ly.run cx3 3000 [(43, true), (0, true), (0, true), (0, true), (0, true)] (sP m g 208 b1 b2)) = some (T [m.fc == false, rg (w16 (w16 (m.sp + 2) - 2)), bl (ix (w16 (w16 (m.sp + 2) - 2))), rg (w16 (w16 (w16 (m.sp + 2) - 2) + 1)), bl (ix (w16 (w16 (w16 (m.sp + 2) - 2) + 1)))], .int .i64 0, 6, hPm (zd0_0 m g) (memL g)) := by kernel_rfl
theorem pd0_1 (m : Mc) (g : Nat → Int) (b1 b2 : Int) : endsAt [0, 1] (Ly.run cx3 3000 [(43, false)] (sP m g 208 b1 b2)) = some ([(m.fc == false, false)], .int .i64 0, 6, hPm { m with pc := w16 (m.pc + 1) } (memL g)) := by kernel_rfl
@[simp] def zd1_0 (m : Mc) (g : Nat → Int) : Mc := { m with pc := w16 (m.pc + 1), r2 := w8 ((or16 (w16 (g (ix (w16 (w16 (m.sp + 2) - 2))))) (w16 (w16 (g (ix (w16 (w16 (w16 (m.sp + 2) - 2) + 1)))) * 256))).fdiv 256), r3 := w8 (or16 (w16 (g (ix (w16 (w16 (m.sp + 2) - 2))))) (w16 (w16 (g (ix (w16 (w16 (w16 (m.sp + 2) - 2) + 1)))) * 256))), sp := w16 (m.sp + 2) }
theorem pd1_0 (m : Mc) (g : Nat → Int) (b1 b2 : Int) : endsAt [0, 1] (Ly.run cx3 3000 [(45, true), (0, true), (0, true), (0, true)] (sP m g 209 b1 b2)) = some (T [rg (w16 (w16 (m.sp + 2) - 2)), bl (ix (w16 (w16 (m.sp + 2) - 2))), rg (w16 (w16 (w16 (m.sp + 2) - 2) + 1)), bl (ix (w16 (w16 (w16 (m.sp + 2) - 2) + 1)))], .int .i64 0, 5, hPm (zd1_0 m g) (memL g)) := by kernel_rfl
theorem pd2_0 (m : Mc) (g : Nat → Int) (b1 b2 : Int) : endsAt [0, 1] (Ly.run cx3 3000 [(51, true)] (sP m g 210 b1 b2)) = some (T [m.fc == false], .int .i64 0, 6, hPm { m with pc := or16 (w16 (or16 0 (w16 b2) * 256)) (w16 b1) } (memL g)) := by kernel_rfl
theorem pd2_1 (m : Mc) (g : Nat → Int) (b1 b2 : Int) : endsAt [0, 1] (Ly.run cx3 3000 [(51, false)] (sP m g 210 b1 b2)) = some ([(m.fc == false, false)], .int .i64 0, 6, hPm { m with pc := w16 (m.pc + 3) } (memL g)) := by kernel_rfl
theorem pd4_0 (m : Mc) (g : Nat → Int) (b1 b2 : Int) : endsAt [0, 1] (Ly.run cx3 3000 [(53, true), (3, true), (0, true), (2, true), (0, true)] (sP m g 212 b1 b2)) = some (T [m.fc == false, rg (w16 (m.sp - 2)), bl (ix (w16 (m.sp - 2))), rg (w16 (w16 (m.sp - 2) + 1)), bl (ix (w16 (w16 (m.sp - 2) + 1)))], .int .i64 0, 7, hPm { m with pc := or16 (w16 (or16 0 (w16 b2) * 256)) (w16 b1), sp := w16 (m.sp - 2) } (M2 g (ix (w16 (m.sp - 2))) (w8 (w16 (m.pc + 3))) (ix (w16 (w16 (m.sp - 2) + 1))) (w8 ((w16 (m.pc + 3)).fdiv 256)))) := by kernel_rfl
theorem pd4_1 (m : Mc) (g : Nat → Int) (b1 b2 : Int) : endsAt [0, 1] (Ly.run cx3 3000 [(53, false)] (sP m g 212 b1 b2)) = some ([(m.fc == false, false)], .int .i64 0, 6, hPm { m with pc := w16 (m.pc + 3) } (memL g)) := by kernel_rfl
@[simp] def zd5_0 (m : Mc) : Mc := { m with pc := w16 (m.pc + 1), sp := w16 (m.sp - 2) }
theorem pd5_0 (m : Mc) (g : Nat → Int) (b1 b2 : Int) : endsAt [0, 1] (Ly.run cx3 3000 [(59, true), (0, true), (2, true), (0, true)] (sP m g 213 b1 b2)) = some (T [rg (w16 (m.sp - 2)), bl (ix (w16 (m.sp - 2))), rg (w16 (w16 (m.sp - 2) + 1)), bl (ix (w16 (w16 (m.sp - 2) + 1)))], .int .i64 0, 6, hPm (zd5_0 m) (M2 g (ix (w16 (m.sp - 2))) (w8 (or16 (w16 (w16 m.r2 * 256)) (w16 m.r3))) (ix (w16 (w16 (m.sp - 2) + 1))) (w8 ((or16 (w16 (w16 m.r2 * 256)) (w16 m.r3)).fdiv 256)))) := by kernel_rfl
@[simp] def zd6_0 (m : Mc) (g : Nat → Int) : Mc := { m with fc := decide (m.r7 - w8 (or16 0 (w16 (g (at1 m.pc 1)))) - 0 < 0), fp := par ((m.r7 - w8 (or16 0 (w16 (g (at1 m.pc 1)))) - 0) % 256), fs := decide (128 ≤ (m.r7 - w8 (or16 0 (w16 (g (at1 m.pc 1)))) - 0) % 256), fx := decide (15 < m.r7 % 16 + 15 - w8 (or16 0 (w16 (g (at1 m.pc 1)))) % 16 + 1), fz := (m.r7 - w8 (or16 0 (w16 (g (at1 m.pc 1)))) - 0) % 256 == 0, pc := w16 (m.pc + 2), r7 := (m.r7 - w8 (or16 0 (w16 (g (at1 m.pc 1)))) - 0) % 256 }
@[simp] def zd6_1 (m : Mc) (b1 : Int) : Mc := { m with fc := decide (m.r7 - w8 (or16 0 (w16 b1)) - 0 < 0), fp := par ((m.r7 - w8 (or16 0 (w16 b1)) - 0) % 256), fs := decide (128 ≤ (m.r7 - w8 (or16 0 (w16 b1)) - 0) % 256), fx := decide (15 < m.r7 % 16 + 15 - w8 (or16 0 (w16 b1)) % 16 + 1), fz := (m.r7 - w8 (or16 0 (w16 b1)) - 0) % 256 == 0, pc := w16 (m.pc + 2), r7 := (m.r7 - w8 (or16 0 (w16 b1)) - 0) % 256 }
theorem pd6_0 (m : Mc) (g : Nat → Int) (b1 b2 : Int) : endsAt [0, 1] (Ly.run cx3 3000 [(21, true), (7, true)] (sP m g 214 b1 b2)) = some (T [m.fc == true, inb m.r7 && inb (w8 (or16 0 (w16 b1)))], .int .i64 0, 5, hPm (zd6_1 m b1) (memL g)) := by kernel_rfl
theorem pd6_1 (m : Mc) (g : Nat → Int) (b1 b2 : Int) : endsAt [0, 1] (Ly.run cx3 3000 [(21, false), (7, true)] (sP m g 214 b1 b2)) = some ([(m.fc == true, false), (inb m.r7 && inb (w8 (or16 0 (w16 b1))), true)], .int .i64 0, 5, hPm (zd6_1 m b1) (memL g)) := by kernel_rfl
@[simp] def zd7_0 (m : Mc) : Mc := { m with pc := 16, sp := w16 (m.sp - 2) }
theorem pd7_0 (m : Mc) (g : Nat → Int) (b1 b2 : Int) : endsAt [0, 1] (Ly.run cx3 3000 [(44, true), (0, true), (2, true), (0, true)] (sP m g 215 b1 b2)) = some (T [rg (w16 (m.sp - 2)), bl (ix (w16 (m.sp - 2))), rg (w16 (w16 (m.sp - 2) + 1)), bl (ix (w16 (w16 (m.sp - 2) + 1)))], .int .i64 0, 6, hPm (zd7_0 m) (M2 g (ix (w16 (m.sp - 2))) (w8 (w16 (m.pc + 1))) (ix (w16 (w16 (m.sp - 2) + 1))) (w8 ((w16 (m.pc + 1)).fdiv 256)))) := by kernel_rfl
@[simp] def zd8_0 (m : Mc) (g : Nat → Int) : Mc := { m with pc := or16 (w16 (g (ix (w16 (w16 (m.sp + 2) - 2))))) (w16 (w16 (g (ix (w16 (w16 (w16 (m.sp + 2) - 2) + 1)))) * 256)), sp := w16 (m.sp + 2) }
theorem pd8_0 (m : Mc) (g : Nat → Int) (b1 b2 : Int) : endsAt [0, 1] (Ly.run cx3 3000 [(43, true), (0, true), (0, true), (0, true), (0, true)] (sP m g 216 b1 b2)) = some (T [m.fc == true, rg (w16 (w16 (m.sp + 2) - 2)), bl (ix (w16 (w16 (m.sp + 2) - 2))), rg (w16 (w16 (w16 (m.sp + 2) - 2) + 1)), bl (ix (w16 (w16 (w16 (m.sp + 2) - 2) + 1)))], .int .i64 0, 6, hPm (zd8_0 m g) (memL g)) := by kernel_rfl
theorem pd8_1 (m : Mc) (g : Nat → Int) (b1 b2 : Int) : endsAt [0, 1] (Ly.run cx3 3000 [(43, false)] (sP m g 216 b1 b2)) = some ([(m.fc == true, false)], .int .i64 0, 6, hPm { m with pc := w16 (m.pc + 1) } (memL g)) := by kernel_rfl
theorem pda_0 (m : Mc) (g : Nat → Int) (b1 b2 : Int) : endsAt [0, 1] (Ly.run cx3 3000 [(51, true)] (sP m g 218 b1 b2)) = some (T [m.fc == true], .int .i64 0, 6, hPm { m with pc := or16 (w16 (or16 0 (w16 b2) * 256)) (w16 b1) } (memL g)) := by kernel_rfl
theorem pda_1 (m : Mc) (g : Nat → Int) (b1 b2 : Int) : endsAt [0, 1] (Ly.run cx3 3000 [(51, false)] (sP m g 218 b1 b2)) = some ([(m.fc == true, false)], .int .i64 0, 6, hPm { m with pc := w16 (m.pc + 3) } (memL g)) := by kernel_rfl
theorem pdc_0 (m : Mc) (g : Nat → Int) (b1 b2 : Int) : endsAt [0, 1] (Ly.run cx3 3000 [(53, true), (3, true), (0, true), (2, true), (0, true)] (sP m g 220 b1 b2)) = some (T [m.fc == true, rg (w16 (m.sp - 2)), bl (ix (w16 (m.sp - 2))), rg (w16 (w16 (m.sp - 2) + 1)), bl (ix (w16 (w16 (m.sp - 2) + 1)))], .int .i64 0, 7, hPm { m with pc := or16 (w16 (or16 0 (w16 b2) * 256)) (w16 b1), sp := w16 (m.sp - 2) } (M2 g (ix (w16 (m.sp - 2))) (w8 (w16 (m.pc + 3))) (ix (w16 (w16 (m.sp - 2) + 1))) (w8 ((w16 (m.pc + 3)).fdiv 256)))) := by kernel_rfl
theorem pdc_1 (m : Mc) (g : Nat → Int) (b1 b2 : Int) : endsAt [0, 1] (Ly.run cx3 3000 [(53, false)] (sP m g 220 b1 b2)) = some ([(m.fc == true, false)], .int .i64 0, 6, hPm { m with pc := w16 (m.pc + 3) } (memL g)) := by kernel_rfl
theorem pde_0 (m : Mc) (g : Nat → Int) (b1 b2 : Int) : endsAt [0, 1] (Ly.run cx3 3000 [(21, true), (7, true)] (sP m g 222 b1 b2)) = some (T [m.fc == true, inb m.r7 && inb (w8 (or16 0 (w16 b1)))], .int .i64 0, 5, hPm { m with fc := decide (m.r7 - w8 (or16 0 (w16 b1)) - 1 < 0), fp := par ((m.r7 - w8 (or16 0 (w16 b1)) - 1) % 256), fs := decide (128 ≤ (m.r7 - w8 (or16 0 (w16 b1)) - 1) % 256), fx := decide (15 < m.r7 % 16 + 15 - w8 (or16 0 (w16 b1)) % 16 + 0), fz := (m.r7 - w8 (or16 0 (w16 b1)) - 1) % 256 == 0, pc := w16 (m.pc + 2), r7 := (m.r7 - w8 (or16 0 (w16 b1)) - 1) % 256 } (memL g)) := by kernel_rfl
theorem pde_1 (m : Mc) (g : Nat → Int) (b1 b2 : Int) : endsAt [0, 1] (Ly.run cx3 3000 [(21, false), (7, true)] (sP m g 222 b1 b2)) = some ([(m.fc == true, false), (inb m.r7 && inb (w8 (or16 0 (w16 b1))), true)], .int .i64 0, 5, hPm { m with fc := decide (m.r7 - w8 (or16 0 (w16 b1)) - 0 < 0), fp := par ((m.r7 - w8 (or16 0 (w16 b1)) - 0) % 256), fs := decide (128 ≤ (m.r7 - w8 (or16 0 (w16 b1)) - 0) % 256), fx := decide (15 < m.r7 % 16 + 15 - w8 (or16 0 (w16 b1)) % 16 + 1), fz := (m.r7 - w8 (or16 0 (w16 b1)) - 0) % 256 == 0, pc := w16 (m.pc + 2), r7 := (m.r7 - w8 (or16 0 (w16 b1)) - 0) % 256 } (memL g)) := by kernel_rfl
@[simp] def zdf_0 (m : Mc) : Mc := { m with pc := 24, sp := w16 (m.sp - 2) }
theorem pdf_0 (m : Mc) (g : Nat → Int) (b1 b2 : Int) : endsAt [0, 1] (Ly.run cx3 3000 [(44, true), (0, true), (2, true), (0, true)] (sP m g 223 b1 b2)) = some (T [rg (w16 (m.sp - 2)), bl (ix (w16 (m.sp - 2))), rg (w16 (w16 (m.sp - 2) + 1)), bl (ix (w16 (w16 (m.sp - 2) + 1)))], .int .i64 0, 6, hPm (zdf_0 m) (M2 g (ix (w16 (m.sp - 2))) (w8 (w16 (m.pc + 1))) (ix (w16 (w16 (m.sp - 2) + 1))) (w8 ((w16 (m.pc + 1)).fdiv 256)))) := by kernel_rfl
end Go.Proofs.Ytdjmpilegommlaa
namespace Go.Proofs.Ytdjmpilegommlaa
open Go Go.Ly Go.RowKit
theorem td0 {m : Mc} {g : Nat → Int} {s z x p c : Bool} (hm : m.Ok) (hg : ∀ e, B8 (g e)) (hh : m.halt = false) (h0 : g (ix m.pc) = 208) (hc : m.fc = c) : Tw 0 m (setF m s z x p c) g := by
  subst hc
  obtain ⟨r0, r1, r2, r3, r4, r5, r7, sp, pc⟩ := id hm
  have hm2 := setF_ok (s := s) (z := z) (x := x) (p := p) (c := m.fc) hm
  rcases Bool.eq_false_or_eq_true m.fc with hf | hf
  · exact ⟨_, _, _, _, 0, joinP hm hh h0 (pd0_1 m g _ _) (by simp [*]) (by decide) (eP (.inl rfl)), joinP hm2 hh h0 (pd0_1 (setF m _ _ _ _ _) g _ _) (by simp [setF, *]) (by decide) (eP (.inl rfl)), ⟨rfl, rfl, rfl, rfl, rfl, rfl, rfl, rfl, rfl, rfl⟩, .inr (.inr (.inr ⟨rfl, ⟨⟨rfl, rfl, rfl, rfl⟩, rfl⟩, ⟨rfl, rfl, rfl, rfl⟩, rfl⟩))⟩
  · exact ⟨_, _, _, _, 0, joinP hm hh h0 (pd0_0 m g _ _) (by simp [*]) (by decide) (eP (.inl rfl)), joinP hm2 hh h0 (pd0_0 (setF m _ _ _ _ _) g _ _) (by simp [setF, *]) (by decide) (eP (.inl rfl)), ⟨rfl, rfl, rfl, rfl, rfl, rfl, rfl, rfl, rfl, rfl⟩, .inr (.inr (.inr ⟨rfl, ⟨⟨rfl, rfl, rfl, rfl⟩, rfl⟩, ⟨rfl, rfl, rfl, rfl⟩, rfl⟩))⟩
theorem td1 {m : Mc} {g : Nat → Int} {s z x p c : Bool} (hm : m.Ok) (hg : ∀ e, B8 (g e)) (hh : m.halt = false) (h0 : g (ix m.pc) = 209) : Tw 0 m (setF m s z x p c) g := by
  obtain ⟨r0, r1, r2, r3, r4, r5, r7, sp, pc⟩ := id hm
  have hm2 := setF_ok (s := s) (z := z) (x := x) (p := p) (c := c) hm
  exact ⟨_, _, _, _, 0, joinP hm hh h0 (pd1_0 m g _ _) (by simp [*]) (by decide) (eP (.inl rfl)), joinP hm2 hh h0 (pd1_0 (setF m _ _ _ _ _) g _ _) (by simp [setF, *]) (by decide) (eP (.inl rfl)), ⟨rfl, rfl, rfl, rfl, rfl, rfl, rfl, rfl, rfl, rfl⟩, .inr (.inr (.inr ⟨rfl, ⟨⟨rfl, rfl, rfl, rfl⟩, rfl⟩, ⟨rfl, rfl, rfl, rfl⟩, rfl⟩))⟩
theorem td2 {m : Mc} {g : Nat → Int} {s z x p c : Bool} (hm : m.Ok) (hg : ∀ e, B8 (g e)) (hh : m.halt = false) (h0 : g (ix m.pc) = 210) (hc : m.fc = c) : Tw 0 m (setF m s z x p c) g := by
  subst hc
  obtain ⟨r0, r1, r2, r3, r4, r5, r7, sp, pc⟩ := id hm
  have hm2 := setF_ok (s := s) (z := z) (x := x) (p := p) (c := m.fc) hm
  rcases Bool.eq_false_or_eq_true m.fc with hf | hf
  · exact ⟨_, _, _, _, 0, joinP hm hh h0 (pd2_1 m g _ _) (by simp [*]) (by decide) (eP (.inl rfl)), joinP hm2 hh h0 (pd2_1 (setF m _ _ _ _ _) g _ _) (by simp [setF, *]) (by decide) (eP (.inl rfl)), ⟨rfl, rfl, rfl, rfl, rfl, rfl, rfl, rfl, rfl, rfl⟩, .inr (.inr (.inr ⟨rfl, ⟨⟨rfl, rfl, rfl, rfl⟩, rfl⟩, ⟨rfl, rfl, rfl, rfl⟩, rfl⟩))⟩
  · exact ⟨_, _, _, _, 0, joinP hm hh h0 (pd2_0 m g _ _) (by simp [*]) (by decide) (eP (.inl rfl)), joinP hm2 hh h0 (pd2_0 (setF m _ _ _ _ _) g _ _) (by simp [setF, *]) (by decide) (eP (.inl rfl)), ⟨rfl, rfl, rfl, rfl, rfl, rfl, rfl, rfl, rfl, rfl⟩, .inr (.inr (.inr ⟨rfl, ⟨⟨rfl, rfl, rfl, rfl⟩, rfl⟩, ⟨rfl, rfl, rfl, rfl⟩, rfl⟩))⟩
theorem td4 {m : Mc} {g : Nat → Int} {s z x p c : Bool} (hm : m.Ok) (hg : ∀ e, B8 (g e)) (hh : m.halt = false) (h0 : g (ix m.pc) = 212) (hc : m.fc = c) : Tw 0 m (setF m s z x p c) g := by
  subst hc
  obtain ⟨r0, r1, r2, r3, r4, r5, r7, sp, pc⟩ := id hm
  have hm2 := setF_ok (s := s) (z := z) (x := x) (p := p) (c := m.fc) hm
  rcases Bool.eq_false_or_eq_true m.fc with hf | hf
  · exact ⟨_, _, _, _, 0, joinP hm hh h0 (pd4_1 m g _ _) (by simp [*]) (by decide) (eP (.inl rfl)), joinP hm2 hh h0 (pd4_1 (setF m _ _ _ _ _) g _ _) (by simp [setF, *]) (by decide) (eP (.inl rfl)), ⟨rfl, rfl, rfl, rfl, rfl, rfl, rfl, rfl, rfl, rfl⟩, .inr (.inr (.inr ⟨rfl, ⟨⟨rfl, rfl, rfl, rfl⟩, rfl⟩, ⟨rfl, rfl, rfl, rfl⟩, rfl⟩))⟩
  · exact ⟨_, _, _, _, 0, joinP hm hh h0 (pd4_0 m g _ _) (by simp [*]) (by decide) (eP (m2s rfl rfl rfl rfl)), joinP hm2 hh h0 (pd4_0 (setF m _ _ _ _ _) g _ _) (by simp [setF, *]) (by decide) (eP (m2s rfl rfl rfl rfl)), ⟨rfl, rfl, rfl, rfl, rfl, rfl, rfl, rfl, rfl, rfl⟩, .inr (.inr (.inr ⟨rfl, ⟨⟨rfl, rfl, rfl, rfl⟩, rfl⟩, ⟨rfl, rfl, rfl, rfl⟩, rfl⟩))⟩
theorem td5 {m : Mc} {g : Nat → Int} {s z x p c : Bool} (hm : m.Ok) (hg : ∀ e, B8 (g e)) (hh : m.halt = false) (h0 : g (ix m.pc) = 213) : Tw 0 m (setF m s z x p c) g := by
  obtain ⟨r0, r1, r2, r3, r4, r5, r7, sp, pc⟩ := id hm
  have hm2 := setF_ok (s := s) (z := z) (x := x) (p := p) (c := c) hm
  exact ⟨_, _, _, _, 0, joinP hm hh h0 (pd5_0 m g _ _) (by simp [*]) (by decide) (eP (m2s rfl rfl rfl rfl)), joinP hm2 hh h0 (pd5_0 (setF m _ _ _ _ _) g _ _) (by simp [setF, *]) (by decide) (eP (m2s rfl rfl rfl rfl)), ⟨rfl, rfl, rfl, rfl, rfl, rfl, rfl, rfl, rfl, rfl⟩, .inr (.inr (.inr ⟨rfl, ⟨⟨rfl, rfl, rfl, rfl⟩, rfl⟩, ⟨rfl, rfl, rfl, rfl⟩, rfl⟩))⟩
theorem td6 {m : Mc} {g : Nat → Int} {s z x p c : Bool} (hm : m.Ok) (hg : ∀ e, B8 (g e)) (hh : m.halt = false) (h0 : g (ix m.pc) = 214) : Tw 31 m (setF m s z x p c) g := by
  obtain ⟨r0, r1, r2, r3, r4, r5, r7, sp, pc⟩ := id hm
  have hm2 := setF_ok (s := s) (z := z) (x := x) (p := p) (c := c) hm
  rcases Bool.eq_false_or_eq_true m.fc with hf | hf <;> cases c
  · exact ⟨_, _, _, _, 0, joinP hm hh h0 (pd6_0 m g _ _) (by simp [*]) (by decide) (eP (.inl rfl)), joinP hm2 hh h0 (pd6_1 (setF m _ _ _ _ _) g _ _) (by simp [setF, *]) (by decide) (eP (.inl rfl)), ⟨rfl, rfl, rfl, rfl, rfl, rfl, rfl, rfl, rfl, rfl⟩, .inl ⟨rfl, ⟨rfl, rfl, rfl, rfl⟩, rfl⟩⟩
  · exact ⟨_, _, _, _, 0, joinP hm hh h0 (pd6_0 m g _ _) (by simp [*]) (by decide) (eP (.inl rfl)), joinP hm2 hh h0 (pd6_0 (setF m _ _ _ _ _) g _ _) (by simp [setF, *]) (by decide) (eP (.inl rfl)), ⟨rfl, rfl, rfl, rfl, rfl, rfl, rfl, rfl, rfl, rfl⟩, .inl ⟨rfl, ⟨rfl, rfl, rfl, rfl⟩, rfl⟩⟩
  · exact ⟨_, _, _, _, 0, joinP hm hh h0 (pd6_1 m g _ _) (by simp [*]) (by decide) (eP (.inl rfl)), joinP hm2 hh h0 (pd6_1 (setF m _ _ _ _ _) g _ _) (by simp [setF, *]) (by decide) (eP (.inl rfl)), ⟨rfl, rfl, rfl, rfl, rfl, rfl, rfl, rfl, rfl, rfl⟩, .inl ⟨rfl, ⟨rfl, rfl, rfl, rfl⟩, rfl⟩⟩
  · exact ⟨_, _, _, _, 0, joinP hm hh h0 (pd6_1 m g _ _) (by simp [*]) (by decide) (eP (.inl rfl)), joinP hm2 hh h0 (pd6_0 (setF m _ _ _ _ _) g _ _) (by simp [setF, *]) (by decide) (eP (.inl rfl)), ⟨rfl, rfl, rfl, rfl, rfl, rfl, rfl, rfl, rfl, rfl⟩, .inl ⟨rfl, ⟨rfl, rfl, rfl, rfl⟩, rfl⟩⟩
theorem td7 {m : Mc} {g : Nat → Int} {s z x p c : Bool} (hm : m.Ok) (hg : ∀ e, B8 (g e)) (hh : m.halt = false) (h0 : g (ix m.pc) = 215) : Tw 0 m (setF m s z x p c) g := by
  obtain ⟨r0, r1, r2, r3, r4, r5, r7, sp, pc⟩ := id hm
  have hm2 := setF_ok (s := s) (z := z) (x := x) (p := p) (c := c) hm
  exact ⟨_, _, _, _, 0, joinP hm hh h0 (pd7_0 m g _ _) (by simp [*]) (by decide) (eP (m2s rfl rfl rfl rfl)), joinP hm2 hh h0 (pd7_0 (setF m _ _ _ _ _) g _ _) (by simp [setF, *]) (by decide) (eP (m2s rfl rfl rfl rfl)), ⟨rfl, rfl, rfl, rfl, rfl, rfl, rfl, rfl, rfl, rfl⟩, .inr (.inr (.inr ⟨rfl, ⟨⟨rfl, rfl, rfl, rfl⟩, rfl⟩, ⟨rfl, rfl, rfl, rfl⟩, rfl⟩))⟩
theorem td8 {m : Mc} {g : Nat → Int} {s z x p c : Bool} (hm : m.Ok) (hg : ∀ e, B8 (g e)) (hh : m.halt = false) (h0 : g (ix m.pc) = 216) (hc : m.fc = c) : Tw 0 m (setF m s z x p c) g := by
  subst hc
  obtain ⟨r0, r1, r2, r3, r4, r5, r7, sp, pc⟩ := id hm
  have hm2 := setF_ok (s := s) (z := z) (x := x) (p := p) (c := m.fc) hm
  rcases Bool.eq_false_or_eq_true m.fc with hf | hf
  · exact ⟨_, _, _, _, 0, joinP hm hh h0 (pd8_0 m g _ _) (by simp [*]) (by decide) (eP (.inl rfl)), joinP hm2 hh h0 (pd8_0 (setF m _ _ _ _ _) g _ _) (by simp [setF, *]) (by decide) (eP (.inl rfl)), ⟨rfl, rfl, rfl, rfl, rfl, rfl, rfl, rfl, rfl, rfl⟩, .inr (.inr (.inr ⟨rfl, ⟨⟨rfl, rfl, rfl, rfl⟩, rfl⟩, ⟨rfl, rfl, rfl, rfl⟩, rfl⟩))⟩
  · exact ⟨_, _, _, _, 0, joinP hm hh h0 (pd8_1 m g _ _) (by simp [*]) (by decide) (eP (.inl rfl)), joinP hm2 hh h0 (pd8_1 (setF m _ _ _ _ _) g _ _) (by simp [setF, *]) (by decide) (eP (.inl rfl)), ⟨rfl, rfl, rfl, rfl, rfl, rfl, rfl, rfl, rfl, rfl⟩, .inr (.inr (.inr ⟨rfl, ⟨⟨rfl, rfl, rfl, rfl⟩, rfl⟩, ⟨rfl, rfl, rfl, rfl⟩, rfl⟩))⟩
theorem tda {m : Mc} {g : Nat → Int} {s z x p c : Bool} (hm : m.Ok) (hg : ∀ e, B8 (g e)) (hh : m.halt = false) (h0 : g (ix m.pc) = 218) (hc : m.fc = c) : Tw 0 m (setF m s z x p c) g := by
  subst hc
  obtain ⟨r0, r1, r2, r3, r4, r5, r7, sp, pc⟩ := id hm
  have hm2 := setF_ok (s := s) (z := z) (x := x) (p := p) (c := m.fc) hm
  rcases Bool.eq_false_or_eq_true m.fc with hf | hf
  · exact ⟨_, _, _, _, 0, joinP hm hh h0 (pda_0 m g _ _) (by simp [*]) (by decide) (eP (.inl rfl)), joinP hm2 hh h0 (pda_0 (setF m _ _ _ _ _) g _ _) (by simp [setF, *]) (by decide) (eP (.inl rfl)), ⟨rfl, rfl, rfl, rfl, rfl, rfl, rfl, rfl, rfl, rfl⟩, .inr (.inr (.inr ⟨rfl, ⟨⟨rfl, rfl, rfl, rfl⟩, rfl⟩, ⟨rfl, rfl, rfl, rfl⟩, rfl⟩))⟩
  · exact ⟨_, _, _, _, 0, joinP hm hh h0 (pda_1 m g _ _) (by simp [*]) (by decide) (eP (.inl rfl)), joinP hm2 hh h0 (pda_1 (setF m _ _ _ _ _) g _ _) (by simp [setF, *]) (by decide) (eP (.inl rfl)), ⟨rfl, rfl, rfl, rfl, rfl, rfl, rfl, rfl, rfl, rfl⟩, .inr (.inr (.inr ⟨rfl, ⟨⟨rfl, rfl, rfl, rfl⟩, rfl⟩, ⟨rfl, rfl, rfl, rfl⟩, rfl⟩))⟩
theorem tdc {m : Mc} {g : Nat → Int} {s z x p c : Bool} (hm : m.Ok) (hg : ∀ e, B8 (g e)) (hh : m.halt = false) (h0 : g (ix m.pc) = 220) (hc : m.fc = c) : Tw 0 m (setF m s z x p c) g := by
  subst hc
  obtain ⟨r0, r1, r2, r3, r4, r5, r7, sp, pc⟩ := id hm
  have hm2 := setF_ok (s := s) (z := z) (x := x) (p := p) (c := m.fc) hm
  rcases Bool.eq_false_or_eq_true m.fc with hf | hf
  · exact ⟨_, _, _, _, 0, joinP hm hh h0 (pdc_0 m g _ _) (by simp [*]) (by decide) (eP (m2s rfl rfl rfl rfl)), joinP hm2 hh h0 (pdc_0 (setF m _ _ _ _ _) g _ _) (by simp [setF, *]) (by decide) (eP (m2s rfl rfl rfl rfl)), ⟨rfl, rfl, rfl, rfl, rfl, rfl, rfl, rfl, rfl, rfl⟩, .inr (.inr (.inr ⟨rfl, ⟨⟨rfl, rfl, rfl, rfl⟩, rfl⟩, ⟨rfl, rfl, rfl, rfl⟩, rfl⟩))⟩
  · exact ⟨_, _, _, _, 0, joinP hm hh h0 (pdc_1 m g _ _) (by simp [*]) (by decide) (eP (.inl rfl)), joinP hm2 hh h0 (pdc_1 (setF m _ _ _ _ _) g _ _) (by simp [setF, *]) (by decide) (eP (.inl rfl)), ⟨rfl, rfl, rfl, rfl, rfl, rfl, rfl, rfl, rfl, rfl⟩, .inr (.inr (.inr ⟨rfl, ⟨⟨rfl, rfl, rfl, rfl⟩, rfl⟩, ⟨rfl, rfl, rfl, rfl⟩, rfl⟩))⟩
theorem tde {m : Mc} {g : Nat → Int} {s z x p c : Bool} (hm : m.Ok) (hg : ∀ e, B8 (g e)) (hh : m.halt = false) (h0 : g (ix m.pc) = 222) (hc : m.fc = c) : Tw 31 m (setF m s z x p c) g := by
  subst hc
  obtain ⟨r0, r1, r2, r3, r4, r5, r7, sp, pc⟩ := id hm
  have hm2 := setF_ok (s := s) (z := z) (x := x) (p := p) (c := m.fc) hm
  rcases Bool.eq_false_or_eq_true m.fc with hf | hf
  · exact ⟨_, _, _, _, 0, joinP hm hh h0 (pde_0 m g _ _) (by simp [*]) (by decide) (eP (.inl rfl)), joinP hm2 hh h0 (pde_0 (setF m _ _ _ _ _) g _ _) (by simp [setF, *]) (by decide) (eP (.inl rfl)), ⟨rfl, rfl, rfl, rfl, rfl, rfl, rfl, rfl, rfl, rfl⟩, .inl ⟨rfl, ⟨rfl, rfl, rfl, rfl⟩, rfl⟩⟩
  · exact ⟨_, _, _, _, 0, joinP hm hh h0 (pde_1 m g _ _) (by simp [*]) (by decide) (eP (.inl rfl)), joinP hm2 hh h0 (pde_1 (setF m _ _ _ _ _) g _ _) (by simp [setF, *]) (by decide) (eP (.inl rfl)), ⟨rfl, rfl, rfl, rfl, rfl, rfl, rfl, rfl, rfl, rfl⟩, .inl ⟨rfl, ⟨rfl, rfl, rfl, rfl⟩, rfl⟩⟩
theorem tdf {m : Mc} {g : Nat → Int} {s z x p c : Bool} (hm : m.Ok) (hg : ∀ e, B8 (g e)) (hh : m.halt = false) (h0 : g (ix m.pc) = 223) : Tw 0 m (setF m s z x p c) g := by
  obtain ⟨r0, r1, r2, r3, r4, r5, r7, sp, pc⟩ := id hm
  have hm2 := setF_ok (s := s) (z := z) (x := x) (p := p) (c := c) hm
  exact ⟨_, _, _, _, 0, joinP hm hh h0 (pdf_0 m g _ _) (by simp [*]) (by decide) (eP (m2s rfl rfl rfl rfl)), joinP hm2 hh h0 (pdf_0 (setF m _ _ _ _ _) g _ _) (by simp [setF, *]) (by decide) (eP (m2s rfl rfl rfl rfl)), ⟨rfl, rfl, rfl, rfl, rfl, rfl, rfl, rfl, rfl, rfl⟩, .inr (.inr (.inr ⟨rfl, ⟨⟨rfl, rfl, rfl, rfl⟩, rfl⟩, ⟨rfl, rfl, rfl, rfl⟩, rfl⟩))⟩
end Go.Proofs.Ytdjmpilegommlaa
namespace Go.Proofs.Ytdjmpilegommlaa
open Go Go.Ly Go.RowKit
@[simp] def ze0_0 (m : Mc) (g : Nat → Int) : Mc := { m with pc := or16 (w16 (g (ix (w16 (w16 (m.sp + 2) - 2))))) (w16 (w16 (g (ix (w16 (w16 (w16 (m.sp + 2) - 2) + 1)))) * 256)), sp := w16 (m.sp + 2) }
theorem pe0_0 (m : Mc) (g : Nat → Int) (b1 b2 : Int) : endsAt [0, 1] (Ly.run cx3 3000 [(43, true), (0, true), (0, true), (0, true), (0, true)] (sP m g 224 b1 b2)) = some (T [m.fp == false, rg (w16 (w16 (m.sp + 2) - 2)), bl (ix (w16 (w16 (m.sp + 2) - 2))), rg (w16 (w16 (w16 (m.sp + 2) - 2) + 1)), bl (ix (w16 (w16 (w16 (m.sp + 2) - 2) + 1)))], .int .i64 0, 6, hPm (ze0_0 m g) (memL g)) := by kernel_rfl
theorem pe0_1 (m : Mc) (g : Nat → Int) (b1 b2 : Int) : endsAt [0, 1] (Ly.run cx3 3000 [(43, false)] (sP m g 224 b1 b2)) = some ([(m.fp == false, false)], .int .i64 0, 6, hPm { m with pc := w16 (m.pc + 1) } (memL g)) := by kernel_rfl
@[simp] def ze1_0 (m : Mc) (g : Nat → Int) : Mc := { m with pc := w16 (m.pc + 1), r4 := w8 ((or16 (w16 (g (ix (w16 (w16 (m.sp + 2) - 2))))) (w16 (w16 (g (ix (w16 (w16 (w16 (m.sp + 2) - 2) + 1)))) * 256))).fdiv 256), r5 := w8 (or16 (w16 (g (ix (w16 (w16 (m.sp + 2) - 2))))) (w16 (w16 (g (ix (w16 (w16 (w16 (m.sp + 2) - 2) + 1)))) * 256))), sp := w16 (m.sp + 2) }
theorem pe1_0 (m : Mc) (g : Nat → Int) (b1 b2 : Int) : endsAt [0, 1] (Ly.run cx3 3000 [(45, true), (0, true), (0, true), (0, true)] (sP m g 225 b1 b2)) = some (T [rg (w16 (w16 (m.sp + 2) - 2)), bl (ix (w16 (w16 (m.sp + 2) - 2))), rg (w16 (w16 (w16 (m.sp + 2) - 2) + 1)), bl (ix (w16 (w16 (w16 (m.sp + 2) - 2) + 1)))], .int .i64 0, 5, hPm (ze1_0 m g) (memL g)) := by kernel_rfl
theorem pe2_0 (m : Mc) (g : Nat → Int) (b1 b2 : Int) : endsAt [0, 1] (Ly.run cx3 3000 [(51, true)] (sP m g 226 b1 b2)) = some (T [m.fp == false], .int .i64 0, 6, hPm { m with pc := or16 (w16 (or16 0 (w16 b2) * 256)) (w16 b1) } (memL g)) := by kernel_rfl
theorem pe2_1 (m : Mc) (g : Nat → Int) (b1 b2 : Int) : endsAt [0, 1] (Ly.run cx3 3000 [(51, false)] (sP m g 226 b1 b2)) = some ([(m.fp == false, false)], .int .i64 0, 6, hPm { m with pc := w16 (m.pc + 3) } (memL g)) := by kernel_rfl
@[simp] def ze3_0 (m : Mc) (g : Nat → Int) : Mc := { m with pc := w16 (m.pc + 1), r4 := w8 ((or16 (w16 (g (ix m.sp))) (w16 (w16 (g (ix (w16 (m.sp + 1)))) * 256))).fdiv 256), r5 := w8 (or16 (w16 (g (ix m.sp))) (w16 (w16 (g (ix (w16 (m.sp + 1)))) * 256))) }
theorem pe3_0 (m : Mc) (g : Nat → Int) (b1 b2 : Int) : endsAt [0, 1] (Ly.run cx3 3000 [(60, true), (0, true), (0, true), (0, true), (8, true), (0, true), (2, true), (0, true)] (sP m g 227 b1 b2)) = some (T [rg (m.sp), bl (ix m.sp), rg (w16 (m.sp + 1)), bl (ix (w16 (m.sp + 1))), rg (m.sp), bl (ix m.sp), rg (w16 (m.sp + 1)), bl (ix (w16 (m.sp + 1)))], .int .i64 0, 6, hPm (ze3_0 m g) (M2 g (ix m.sp) (w8 (or16 (w16 (w16 m.r4 * 256)) (w16 m.r5))) (ix (w16 (m.sp + 1))) (w8 ((or16 (w16 (w16 m.r4 * 256)) (w16 m.r5)).fdiv 256)))) := by kernel_rfl
theorem pe4_0 (m : Mc) (g : Nat → Int) (b1 b2 : Int) : endsAt [0, 1] (Ly.run cx3 3000 [(53, true), (3, true), (0, true), (2, true), (0, true)] (sP m g 228 b1 b2)) = some (T [m.fp == false, rg (w16 (m.sp - 2)), bl (ix (w16 (m.sp - 2))), rg (w16 (w16 (m.sp - 2) + 1)), bl (ix (w16 (w16 (m.sp - 2) + 1)))], .int .i64 0, 7, hPm { m with pc := or16 (w16 (or16 0 (w16 b2) * 256)) (w16 b1), sp := w16 (m.sp - 2) } (M2 g (ix (w16 (m.sp - 2))) (w8 (w16 (m.pc + 3))) (ix (w16 (w16 (m.sp - 2) + 1))) (w8 ((w16 (m.pc + 3)).fdiv 256)))) := by kernel_rfl
theorem pe4_1 (m : Mc) (g : Nat → Int) (b1 b2 : Int) : endsAt [0, 1] (Ly.run cx3 3000 [(53, false)] (sP m g 228 b1 b2)) = some ([(m.fp == false, false)], .int .i64 0, 6, hPm { m with pc := w16 (m.pc + 3) } (memL g)) := by kernel_rfl
@[simp] def ze5_0 (m : Mc) : Mc := { m with pc := w16 (m.pc + 1), sp := w16 (m.sp - 2) }
theorem pe5_0 (m : Mc) (g : Nat → Int) (b1 b2 : Int) : endsAt [0, 1] (Ly.run cx3 3000 [(59, true), (0, true), (2, true), (0, true)] (sP m g 229 b1 b2)) = some (T [rg (w16 (m.sp - 2)), bl (ix (w16 (m.sp - 2))), rg (w16 (w16 (m.sp - 2) + 1)), bl (ix (w16 (w16 (m.sp - 2) + 1)))], .int .i64 0, 6, hPm (ze5_0 m) (M2 g (ix (w16 (m.sp - 2))) (w8 (or16 (w16 (w16 m.r4 * 256)) (w16 m.r5))) (ix (w16 (w16 (m.sp - 2) + 1))) (w8 ((or16 (w16 (w16 m.r4 * 256)) (w16 m.r5)).fdiv 256)))) := by kernel_rfl
@[simp] def ze6_0 (m : Mc) (g : Nat → Int) : Mc := { m with fc := false, fp := par (and8 m.r7 (w8 (or16 0 (w16 (g (at1 m.pc 1)))))), fs := decide (128 ≤ and8 m.r7 (w8 (or16 0 (w16 (g (at1 m.pc 1)))))), fx := and8 (or8 m.r7 (w8 (or16 0 (w16 (g (at1 m.pc 1)))))) 8 != 0, fz := and8 m.r7 (w8 (or16 0 (w16 (g (at1 m.pc 1))))) == 0, pc := w16 (m.pc + 2), r7 := and8 m.r7 (w8 (or16 0 (w16 (g (at1 m.pc 1))))) }
@[simp] def ze6_1 (m : Mc) (b1 : Int) : Mc := { m with fc := false, fp := par (and8 m.r7 (w8 (or16 0 (w16 b1)))), fs := decide (128 ≤ and8 m.r7 (w8 (or16 0 (w16 b1)))), fx := and8 (or8 m.r7 (w8 (or16 0 (w16 b1)))) 8 != 0, fz := and8 m.r7 (w8 (or16 0 (w16 b1))) == 0, pc := w16 (m.pc + 2), r7 := and8 m.r7 (w8 (or16 0 (w16 b1))) }
theorem pe6_0 (m : Mc) (g : Nat → Int) (b1 b2 : Int) : endsAt [0, 1] (Ly.run cx3 3000 [(21, true), (8, true)] (sP m g 230 b1 b2)) = some (T [m.fc == true, inb m.r7 && inb (w8 (or16 0 (w16 b1)))], .int .i64 0, 5, hPm (ze6_1 m b1) (memL g)) := by kernel_rfl
theorem pe6_1 (m : Mc) (g : Nat → Int) (b1 b2 : Int) : endsAt [0, 1] (Ly.run cx3 3000 [(21, false), (8, true)] (sP m g 230 b1 b2)) = some ([(m.fc == true, false), (inb m.r7 && inb (w8 (or16 0 (w16 b1))), true)], .int .i64 0, 5, hPm (ze6_1 m b1) (memL g)) := by kernel_rfl
@[simp] def ze7_0 (m : Mc) : Mc := { m with pc := 32, sp := w16 (m.sp - 2) }
theorem pe7_0 (m : Mc) (g : Nat → Int) (b1 b2 : Int) : endsAt [0, 1] (Ly.run cx3 3000 [(44, true), (0, true), (2, true), (0, true)] (sP m g 231 b1 b2)) = some (T [rg (w16 (m.sp - 2)), bl (ix (w16 (m.sp - 2))), rg (w16 (w16 (m.sp - 2) + 1)), bl (ix (w16 (w16 (m.sp - 2) + 1)))], .int .i64 0, 6, hPm (ze7_0 m) (M2 g (ix (w16 (m.sp - 2))) (w8 (w16 (m.pc + 1))) (ix (w16 (w16 (m.sp - 2) + 1))) (w8 ((w16 (m.pc + 1)).fdiv 256)))) := by kernel_rfl
@[simp] def ze8_0 (m : Mc) (g : Nat → Int) : Mc := { m with pc := or16 (w16 (g (ix (w16 (w16 (m.sp + 2) - 2))))) (w16 (w16 (g (ix (w16 (w16 (w16 (m.sp + 2) - 2) + 1)))) * 256)), sp := w16 (m.sp + 2) }
theorem pe8_0 (m : Mc) (g : Nat → Int) (b1 b2 : Int) : endsAt [0, 1] (Ly.run cx3 3000 [(43, true), (0, true), (0, true), (0, true), (0, true)] (sP m g 232 b1 b2)) = some (T [m.fp == true, rg (w16 (w16 (m.sp + 2) - 2)), bl (ix (w16 (w16 (m.sp + 2) - 2))), rg (w16 (w16 (w16 (m.sp + 2) - 2) + 1)), bl (ix (w16 (w16 (w16 (m.sp + 2) - 2) + 1)))], .int .i64 0, 6, hPm (ze8_0 m g) (memL g)) := by kernel_rfl
theorem pe8_1 (m : Mc) (g : Nat → Int) (b1 b2 : Int) : endsAt [0, 1] (Ly.run cx3 3000 [(43, false)] (sP m g 232 b1 b2)) = some ([(m.fp == true, false)], .int .i64 0, 6, hPm { m with pc := w16 (m.pc + 1) } (memL g)) := by kernel_rfl
@[simp] def ze9_0 (m : Mc) : Mc := { m with pc := or16 (w16 (w16 m.r4 * 256)) (w16 m.r5) }
theorem pe9_0 (m : Mc) (g : Nat → Int) (b1 b2 : Int) : endsAt [0, 1] (Ly.run cx3 3000 [] (sP m g 233 b1 b2)) = some (T [], .int .i64 0, 5, hPm (ze9_0 m) (memL g)) := by kernel_rfl
theorem pea_0 (m : Mc) (g : Nat → Int) (b1 b2 : Int) : endsAt [0, 1] (Ly.run cx3 3000 [(51, true)] (sP m g 234 b1 b2)) = some (T [m.fp == true], .int .i64 0, 6, hPm { m with pc := or16 (w16 (or16 0 (w16 b2) * 256)) (w16 b1) } (memL g)) := by kernel_rfl
theorem pea_1 (m : Mc) (g : Nat → Int) (b1 b2 : Int) : endsAt [0, 1] (Ly.run cx3 3000 [(51, false)] (sP m g 234 b1 b2)) = some ([(m.fp == true, false)], .int .i64 0, 6, hPm { m with pc := w16 (m.pc + 3) } (memL g)) := by kernel_rfl
@[simp] def zeb_0 (m : Mc) : Mc := { m with pc := w16 (m.pc + 1), r2 := w8 ((or16 (w16 (w16 m.r4 * 256)) (w16 m.r5)).fdiv 256), r3 := w8 (or16 (w16 (w16 m.r4 * 256)) (w16 m.r5)), r4 := w8 ((or16 (w16 (w16 m.r2 * 256)) (w16 m.r3)).fdiv 256), r5 := w8 (or16 (w16 (w16 m.r2 * 256)) (w16 m.r3)) }
theorem peb_0 (m : Mc) (g : Nat → Int) (b1 b2 : Int) : endsAt [0, 1] (Ly.run cx3 3000 [] (sP m g 235 b1 b2)) = some (T [], .int .i64 0, 5, hPm (zeb_0 m) (memL g)) := by kernel_rfl
theorem pec_0 (m : Mc) (g : Nat → Int) (b1 b2 : Int) : endsAt [0, 1] (Ly.run cx3 3000 [(53, true), (3, true), (0, true), (2, true), (0, true)] (sP m g 236 b1 b2)) = some (T [m.fp == true, rg (w16 (m.sp - 2)), bl (ix (w16 (m.sp - 2))), rg (w16 (w16 (m.sp - 2) + 1)), bl (ix (w16 (w16 (m.sp - 2) + 1)))], .int .i64 0, 7, hPm { m with pc := or16 (w16 (or16 0 (w16 b2) * 256)) (w16 b1), sp := w16 (m.sp - 2) } (M2 g (ix (w16 (m.sp - 2))) (w8 (w16 (m.pc + 3))) (ix (w16 (w16 (m.sp - 2) + 1))) (w8 ((w16 (m.pc + 3)).fdiv 256)))) := by kernel_rfl
theorem pec_1 (m : Mc) (g : Nat → Int) (b1 b2 : Int) : endsAt [0, 1] (Ly.run cx3 3000 [(53, false)] (sP m g 236 b1 b2)) = some ([(m.fp == true, false)], .int .i64 0, 6, hPm { m with pc := w16 (m.pc + 3) } (memL g)) := by kernel_rfl
@[simp] def zee_0 (m : Mc) (g : Nat → Int) : Mc := { m with fc := false, fp := par (xor8 m.r7 (w8 (or16 0 (w16 (g (at1 m.pc 1)))))), fs := decide (128 ≤ xor8 m.r7 (w8 (or16 0 (w16 (g (at1 m.pc 1)))))), fx := false, fz := xor8 m.r7 (w8 (or16 0 (w16 (g (at1 m.pc 1))))) == 0, pc := w16 (m.pc + 2), r7 := xor8 m.r7 (w8 (or16 0 (w16 (g (at1 m.pc 1))))) }
@[simp] def zee_1 (m : Mc) (b1 : Int) : Mc := { m with fc := false, fp := par (xor8 m.r7 (w8 (or16 0 (w16 b1)))), fs := decide (128 ≤ xor8 m.r7 (w8 (or16 0 (w16 b1)))), fx := false, fz := xor8 m.r7 (w8 (or16 0 (w16 b1))) == 0, pc := w16 (m.pc + 2), r7 := xor8 m.r7 (w8 (or16 0 (w16 b1))) }
theorem pee_0 (m : Mc) (g : Nat → Int) (b1 b2 : Int) : endsAt [0, 1] (Ly.run cx3 3000 [(21, true), (9, true)] (sP m g 238 b1 b2)) = some (T [m.fc == true, inb m.r7 && inb (w8 (or16 0 (w16 b1)))], .int .i64 0, 5, hPm (zee_1 m b1) (memL g)) := by kernel_rfl
theorem pee_1 (m : Mc) (g : Nat → Int) (b1 b2 : Int) : endsAt [0, 1] (Ly.run cx3 3000 [(21, false), (9, true)] (sP m g 238 b1 b2)) = some ([(m.fc == true, false), (inb m.r7 && inb (w8 (or16 0 (w16 b1))), true)], .int .i64 0, 5, hPm (zee_1 m b1) (memL g)) := by kernel_rfl
@[simp] def zef_0 (m : Mc) : Mc := { m with pc := 40, sp := w16 (m.sp - 2) }
theorem pef_0 (m : Mc) (g : Nat → Int) (b1 b2 : Int) : endsAt [0, 1] (Ly.run cx3 3000 [(44, true), (0, true), (2, true), (0, true)] (sP m g 239 b1 b2)) = some (T [rg (w16 (m.sp - 2)), bl (ix (w16 (m.sp - 2))), rg (w16 (w16 (m.sp - 2) + 1)), bl (ix (w16 (w16 (m.sp - 2) + 1)))], .int .i64 0, 6, hPm (zef_0 m) (M2 g (ix (w16 (m.sp - 2))) (w8 (w16 (m.pc + 1))) (ix (w16 (w16 (m.sp - 2) + 1))) (w8 ((w16 (m.pc + 1)).fdiv 256)))) := by kernel_rfl
end Go.Proofs.Ytdjmpilegommlaa
namespace Go.Proofs.Ytdjmpilegommlaa
open Go Go.Ly Go.RowKit
theorem te0 {m : Mc} {g : Nat → Int} {s z x p c : Bool} (hm : m.Ok) (hg : ∀ e, B8 (g e)) (hh : m.halt = false) (h0 : g (ix m.pc) = 224) (hp : m.fp = p) : Tw 0 m (setF m s z x p c) g := by
  subst hp
  obtain ⟨r0, r1, r2, r3, r4, r5, r7, sp, pc⟩ := id hm
  have hm2 := setF_ok (s := s) (z := z) (x := x) (p := m.fp) (c := c) hm
  rcases Bool.eq_false_or_eq_true m.fp with hf | hf
  · exact ⟨_, _, _, _, 0, joinP hm hh h0 (pe0_1 m g _ _) (by simp [*]) (by decide) (eP (.inl rfl)), joinP hm2 hh h0 (pe0_1 (setF m _ _ _ _ _) g _ _) (by simp [setF, *]) (by decide) (eP (.inl rfl)), ⟨rfl, rfl, rfl, rfl, rfl, rfl, rfl, rfl, rfl, rfl⟩, .inr (.inr (.inr ⟨rfl, ⟨⟨rfl, rfl, rfl, rfl⟩, rfl⟩, ⟨rfl, rfl, rfl, rfl⟩, rfl⟩))⟩
  · exact ⟨_, _, _, _, 0, joinP hm hh h0 (pe0_0 m g _ _) (by simp [*]) (by decide) (eP (.inl rfl)), joinP hm2 hh h0 (pe0_0 (setF m _ _ _ _ _) g _ _) (by simp [setF, *]) (by decide) (eP (.inl rfl)), ⟨rfl, rfl, rfl, rfl, rfl, rfl, rfl, rfl, rfl, rfl⟩, .inr (.inr (.inr ⟨rfl, ⟨⟨rfl, rfl, rfl, rfl⟩, rfl⟩, ⟨rfl, rfl, rfl, rfl⟩, rfl⟩))⟩
theorem te1 {m : Mc} {g : Nat → Int} {s z x p c : Bool} (hm : m.Ok) (hg : ∀ e, B8 (g e)) (hh : m.halt = false) (h0 : g (ix m.pc) = 225) : Tw 0 m (setF m s z x p c) g := by
  obtain ⟨r0, r1, r2, r3, r4, r5, r7, sp, pc⟩ := id hm
  have hm2 := setF_ok (s := s) (z := z) (x := x) (p := p) (c := c) hm
  exact ⟨_, _, _, _, 0, joinP hm hh h0 (pe1_0 m g _ _) (by simp [*]) (by decide) (eP (.inl rfl)), joinP hm2 hh h0 (pe1_0 (setF m _ _ _ _ _) g _ _) (by simp [setF, *]) (by decide) (eP (.inl rfl)), ⟨rfl, rfl, rfl, rfl, rfl, rfl, rfl, rfl, rfl, rfl⟩, .inr (.inr (.inr ⟨rfl, ⟨⟨rfl, rfl, rfl, rfl⟩, rfl⟩, ⟨rfl, rfl, rfl, rfl⟩, rfl⟩))⟩
theorem te2 {m : Mc} {g : Nat → Int} {s z x p c : Bool} (hm : m.Ok) (hg : ∀ e, B8 (g e)) (hh : m.halt = false) (h0 : g (ix m.pc) = 226) (hp : m.fp = p) : Tw 0 m (setF m s z x p c) g := by
  subst hp
  obtain ⟨r0, r1, r2, r3, r4, r5, r7, sp, pc⟩ := id hm
  have hm2 := setF_ok (s := s) (z := z) (x := x) (p := m.fp) (c := c) hm
  rcases Bool.eq_false_or_eq_true m.fp with hf | hf
  · exact ⟨_, _, _, _, 0, joinP hm hh h0 (pe2_1 m g _ _) (by simp [*]) (by decide) (eP (.inl rfl)), joinP hm2 hh h0 (pe2_1 (setF m _ _ _ _ _) g _ _) (by simp [setF, *]) (by decide) (eP (.inl rfl)), ⟨rfl, rfl, rfl, rfl, rfl, rfl, rfl, rfl, rfl, rfl⟩, .inr (.inr (.inr ⟨rfl, ⟨⟨rfl, rfl, rfl, rfl⟩, rfl⟩, ⟨rfl, rfl, rfl, rfl⟩, rfl⟩))⟩
  · exact ⟨_, _, _, _, 0, joinP hm hh h0 (pe2_0 m g _ _) (by simp [*]) (by decide) (eP (.inl rfl)), joinP hm2 hh h0 (pe2_0 (setF m _ _ _ _ _) g _ _) (by simp [setF, *]) (by decide) (eP (.inl rfl)), ⟨rfl, rfl, rfl, rfl, rfl, rfl, rfl, rfl, rfl, rfl⟩, .inr (.inr (.inr ⟨rfl, ⟨⟨rfl, rfl, rfl, rfl⟩, rfl⟩, ⟨rfl, rfl, rfl, rfl⟩, rfl⟩))⟩
theorem te3 {m : Mc} {g : Nat → Int} {s z x p c : Bool} (hm : m.Ok) (hg : ∀ e, B8 (g e)) (hh : m.halt = false) (h0 : g (ix m.pc) = 227) : Tw 0 m (setF m s z x p c) g := by
  obtain ⟨r0, r1, r2, r3, r4, r5, r7, sp, pc⟩ := id hm
  have hm2 := setF_ok (s := s) (z := z) (x := x) (p := p) (c := c) hm
  exact ⟨_, _, _, _, 0, joinP hm hh h0 (pe3_0 m g _ _) (by simp [*]) (by decide) (eP (m2s rfl rfl rfl rfl)), joinP hm2 hh h0 (pe3_0 (setF m _ _ _ _ _) g _ _) (by simp [setF, *]) (by decide) (eP (m2s rfl rfl rfl rfl)), ⟨rfl, rfl, rfl, rfl, rfl, rfl, rfl, rfl, rfl, rfl⟩, .inr (.inr (.inr ⟨rfl, ⟨⟨rfl, rfl, rfl, rfl⟩, rfl⟩, ⟨rfl, rfl, rfl, rfl⟩, rfl⟩))⟩
theorem te4 {m : Mc} {g : Nat → Int} {s z x p c : Bool} (hm : m.Ok) (hg : ∀ e, B8 (g e)) (hh : m.halt = false) (h0 : g (ix m.pc) = 228) (hp : m.fp = p) : Tw 0 m (setF m s z x p c) g := by
  subst hp
  obtain ⟨r0, r1, r2, r3, r4, r5, r7, sp, pc⟩ := id hm
  have hm2 := setF_ok (s := s) (z := z) (x := x) (p := m.fp) (c := c) hm
  rcases Bool.eq_false_or_eq_true m.fp with hf | hf
  · exact ⟨_, _, _, _, 0, joinP hm hh h0 (pe4_1 m g _ _) (by simp [*]) (by decide) (eP (.inl rfl)), joinP hm2 hh h0 (pe4_1 (setF m _ _ _ _ _) g _ _) (by simp [setF, *]) (by decide) (eP (.inl rfl)), ⟨rfl, rfl, rfl, rfl, rfl, rfl, rfl, rfl, rfl, rfl⟩, .inr (.inr (.inr ⟨rfl, ⟨⟨rfl, rfl, rfl, rfl⟩, rfl⟩, ⟨rfl, rfl, rfl, rfl⟩, rfl⟩))⟩
  · exact ⟨_, _, _, _, 0, joinP hm hh h0 (pe4_0 m g _ _) (by simp [*]) (by decide) (eP (m2s rfl rfl rfl rfl)), joinP hm2 hh h0 (pe4_0 (setF m _ _ _ _ _) g _ _) (by simp [setF, *]) (by decide) (eP (m2s rfl rfl rfl rfl)), ⟨rfl, rfl, rfl, rfl, rfl, rfl, rfl, rfl, rfl, rfl⟩, .inr (.inr (.inr ⟨rfl, ⟨⟨rfl, rfl, rfl, rfl⟩, rfl⟩, ⟨rfl, rfl, rfl, rfl⟩, rfl⟩))⟩
theorem te5 {m : Mc} {g : Nat → Int} {s z x p c : Bool} (hm : m.Ok) (hg : ∀ e, B8 (g e)) (hh : m.halt = false) (h0 : g (ix m.pc) = 229) : Tw 0 m (setF m s z x p c) g := by
  obtain ⟨r0, r1, r2, r3, r4, r5, r7, sp, pc⟩ := id hm
  have hm2 := setF_ok (s := s) (z := z) (x := x) (p := p) (c := c) hm
  exact ⟨_, _, _, _, 0, joinP hm hh h0 (pe5_0 m g _ _) (by simp [*]) (by decide) (eP (m2s rfl rfl rfl rfl)), joinP hm2 hh h0 (pe5_0 (setF m _ _ _ _ _) g _ _) (by simp [setF, *]) (by decide) (eP (m2s rfl rfl rfl rfl)), ⟨rfl, rfl, rfl, rfl, rfl, rfl, rfl, rfl, rfl, rfl⟩, .inr (.inr (.inr ⟨rfl, ⟨⟨rfl, rfl, rfl, rfl⟩, rfl⟩, ⟨rfl, rfl, rfl, rfl⟩, rfl⟩))⟩
theorem te6 {m : Mc} {g : Nat → Int} {s z x p c : Bool} (hm : m.Ok) (hg : ∀ e, B8 (g e)) (hh : m.halt = false) (h0 : g (ix m.pc) = 230) : Tw 31 m (setF m s z x p c) g := by
  obtain ⟨r0, r1, r2, r3, r4, r5, r7, sp, pc⟩ := id hm
  have hm2 := setF_ok (s := s) (z := z) (x := x) (p := p) (c := c) hm
  rcases Bool.eq_false_or_eq_true m.fc with hf | hf <;> cases c
  · exact ⟨_, _, _, _, 0, joinP hm hh h0 (pe6_0 m g _ _) (by simp [*]) (by decide) (eP (.inl rfl)), joinP hm2 hh h0 (pe6_1 (setF m _ _ _ _ _) g _ _) (by simp [setF, *]) (by decide) (eP (.inl rfl)), ⟨rfl, rfl, rfl, rfl, rfl, rfl, rfl, rfl, rfl, rfl⟩, .inl ⟨rfl, ⟨rfl, rfl, rfl, rfl⟩, rfl⟩⟩
  · exact ⟨_, _, _, _, 0, joinP hm hh h0 (pe6_0 m g _ _) (by simp [*]) (by decide) (eP (.inl rfl)), joinP hm2 hh h0 (pe6_0 (setF m _ _ _ _ _) g _ _) (by simp [setF, *]) (by decide) (eP (.inl rfl)), ⟨rfl, rfl, rfl, rfl, rfl, rfl, rfl, rfl, rfl, rfl⟩, .inl ⟨rfl, ⟨rfl, rfl, rfl, rfl⟩, rfl⟩⟩
  · exact ⟨_, _, _, _, 0, joinP hm hh h0 (pe6_1 m g _ _) (by simp [*]) (by decide) (eP (.inl rfl)), joinP hm2 hh h0 (pe6_1 (setF m _ _ _ _ _) g _ _) (by simp [setF, *]) (by decide) (eP (.inl rfl)), ⟨rfl, rfl, rfl, rfl, rfl, rfl, rfl, rfl, rfl, rfl⟩, .inl ⟨rfl, ⟨rfl, rfl, rfl, rfl⟩, rfl⟩⟩
  · exact ⟨_, _, _, _, 0, joinP hm hh h0 (pe6_1 m g _ _) (by simp [*]) (by decide) (eP (.inl rfl)), joinP hm2 hh h0 (pe6_0 (setF m _ _ _ _ _) g _ _) (by simp [setF, *]) (by decide) (eP (.inl rfl)), ⟨rfl, rfl, rfl, rfl, rfl, rfl, rfl, rfl, rfl, rfl⟩, .inl ⟨rfl, ⟨rfl, rfl, rfl, rfl⟩, rfl⟩⟩
theorem te7 {m : Mc} {g : Nat → Int} {s z x p c : Bool} (hm : m.Ok) (hg : ∀ e, B8 (g e)) (hh : m.halt = false) (h0 : g (ix m.pc) = 231) : Tw 0 m (setF m s z x p c) g := by
  obtain ⟨r0, r1, r2, r3, r4, r5, r7, sp, pc⟩ := id hm
  have hm2 := setF_ok (s := s) (z := z) (x := x) (p := p) (c := c) hm
  exact ⟨_, _, _, _, 0, joinP hm hh h0 (pe7_0 m g _ _) (by simp [*]) (by decide) (eP (m2s rfl rfl rfl rfl)), joinP hm2 hh h0 (pe7_0 (setF m _ _ _ _ _) g _ _) (by simp [setF, *]) (by decide) (eP (m2s rfl rfl rfl rfl)), ⟨rfl, rfl, rfl, rfl, rfl, rfl, rfl, rfl, rfl, rfl⟩, .inr (.inr (.inr ⟨rfl, ⟨⟨rfl, rfl, rfl, rfl⟩, rfl⟩, ⟨rfl, rfl, rfl, rfl⟩, rfl⟩))⟩
theorem te8 {m : Mc} {g : Nat → Int} {s z x p c : Bool} (hm : m.Ok) (hg : ∀ e, B8 (g e)) (hh : m.halt = false) (h0 : g (ix m.pc) = 232) (hp : m.fp = p) : Tw 0 m (setF m s z x p c) g := by
  subst hp
  obtain ⟨r0, r1, r2, r3, r4, r5, r7, sp, pc⟩ := id hm
  have hm2 := setF_ok (s := s) (z := z) (x := x) (p := m.fp) (c := c) hm
  rcases Bool.eq_false_or_eq_true m.fp with hf | hf
  · exact ⟨_, _, _, _, 0, joinP hm hh h0 (pe8_0 m g _ _) (by simp [*]) (by decide) (eP (.inl rfl)), joinP hm2 hh h0 (pe8_0 (setF m _ _ _ _ _) g _ _) (by simp [setF, *]) (by decide) (eP (.inl rfl)), ⟨rfl, rfl, rfl, rfl, rfl, rfl, rfl, rfl, rfl, rfl⟩, .inr (.inr (.inr ⟨rfl, ⟨⟨rfl, rfl, rfl, rfl⟩, rfl⟩, ⟨rfl, rfl, rfl, rfl⟩, rfl⟩))⟩
  · exact ⟨_, _, _, _, 0, joinP hm hh h0 (pe8_1 m g _ _) (by simp [*]) (by decide) (eP (.inl rfl)), joinP hm2 hh h0 (pe8_1 (setF m _ _ _ _ _) g _ _) (by simp [setF, *]) (by decide) (eP (.inl rfl)), ⟨rfl, rfl, rfl, rfl, rfl, rfl, rfl, rfl, rfl, rfl⟩, .inr (.inr (.inr ⟨rfl, ⟨⟨rfl, rfl, rfl, rfl⟩, rfl⟩, ⟨rfl, rfl, rfl, rfl⟩, rfl⟩))⟩
theorem te9 {m : Mc} {g : Nat → Int} {s z x p c : Bool} (hm : m.Ok) (hg : ∀ e, B8 (g e)) (hh : m.halt = false) (h0 : g (ix m.pc) = 233) : Tw 0 m (setF m s z x p c) g := by
  obtain ⟨r0, r1, r2, r3, r4, r5, r7, sp, pc⟩ := id hm
  have hm2 := setF_ok (s := s) (z := z) (x := x) (p := p) (c := c) hm
  exact ⟨_, _, _, _, 0, joinP hm hh h0 (pe9_0 m g _ _) (by simp [*]) (by decide) (eP (.inl rfl)), joinP hm2 hh h0 (pe9_0 (setF m _ _ _ _ _) g _ _) (by simp [setF, *]) (by decide) (eP (.inl rfl)), ⟨rfl, rfl, rfl, rfl, rfl, rfl, rfl, rfl, rfl, rfl⟩, .inr (.inr (.inr ⟨rfl, ⟨⟨rfl, rfl, rfl, rfl⟩, rfl⟩, ⟨rfl, rfl, rfl, rfl⟩, rfl⟩))⟩
theorem tea {m : Mc} {g : Nat → Int} {s z x p c : Bool} (hm : m.Ok) (hg : ∀ e, B8 (g e)) (hh : m.halt = false) (h0 : g (ix m.pc) = 234) (hp : m.fp = p) : Tw 0 m (setF m s z x p c) g := by
  subst hp
  obtain ⟨r0, r1, r2, r3, r4, r5, r7, sp, pc⟩ := id hm
  have hm2 := setF_ok (s := s) (z := z) (x := x) (p := m.fp) (c := c) hm
  rcases Bool.eq_false_or_eq_true m.fp with hf | hf
  · exact ⟨_, _, _, _, 0, joinP hm hh h0 (pea_0 m g _ _) (by simp [*]) (by decide) (eP (.inl rfl)), joinP hm2 hh h0 (pea_0 (setF m _ _ _ _ _) g _ _) (by simp [setF, *]) (by decide) (eP (.inl rfl)), ⟨rfl, rfl, rfl, rfl, rfl, rfl, rfl, rfl, rfl, rfl⟩, .inr (.inr (.inr ⟨rfl, ⟨⟨rfl, rfl, rfl, rfl⟩, rfl⟩, ⟨rfl, rfl, rfl, rfl⟩, rfl⟩))⟩
  · exact ⟨_, _, _, _, 0, joinP hm hh h0 (pea_1 m g _ _) (by simp [*]) (by decide) (eP (.inl rfl)), joinP hm2 hh h0 (pea_1 (setF m _ _ _ _ _) g _ _) (by simp [setF, *]) (by decide) (eP (.inl rfl)), ⟨rfl, rfl, rfl, rfl, rfl, rfl, rfl, rfl, rfl, rfl⟩, .inr (.inr (.inr ⟨rfl, ⟨⟨rfl, rfl, rfl, rfl⟩, rfl⟩, ⟨rfl, rfl, rfl, rfl⟩, rfl⟩))⟩
theorem teb {m : Mc} {g : Nat → Int} {s z x p c : Bool} (hm : m.Ok) (hg : ∀ e, B8 (g e)) (hh : m.halt = false) (h0 : g (ix m.pc) = 235) : Tw 0 m (setF m s z x p c) g := by
  obtain ⟨r0, r1, r2, r3, r4, r5, r7, sp, pc⟩ := id hm
  have hm2 := setF_ok (s := s) (z := z) (x := x) (p := p) (c := c) hm
  exact ⟨_, _, _, _, 0, joinP hm hh h0 (peb_0 m g _ _) (by simp [*]) (by decide) (eP (.inl rfl)), joinP hm2 hh h0 (peb_0 (setF m _ _ _ _ _) g _ _) (by simp [setF, *]) (by decide) (eP (.inl rfl)), ⟨rfl, rfl, rfl, rfl, rfl, rfl, rfl, rfl, rfl, rfl⟩, .inr (.inr (.inr ⟨rfl, ⟨⟨rfl, rfl, rfl, rfl⟩, rfl⟩, ⟨rfl, rfl, rfl, rfl⟩, rfl⟩))⟩
theorem tec {m : Mc} {g : Nat → Int} {s z x p c : Bool} (hm : m.Ok) (hg : ∀ e, B8 (g e)) (hh : m.halt = false) (h0 : g (ix m.pc) = 236) (hp : m.fp = p) : Tw 0 m (setF m s z x p c) g := by
  subst hp
  obtain ⟨r0, r1, r2, r3, r4, r5, r7, sp, pc⟩ := id hm
  have hm2 := setF_ok (s := s) (z := z) (x := x) (p := m.fp) (c := c) hm
  rcases Bool.eq_false_or_eq_true m.fp with hf | hf
  · exact ⟨_, _, _, _, 0, joinP hm hh h0 (pec_0 m g _ _) (by simp [*]) (by decide) (eP (m2s rfl rfl rfl rfl)), joinP hm2 hh h0 (pec_0 (setF m _ _ _ _ _) g _ _) (by simp [setF, *]) (by decide) (eP (m2s rfl rfl rfl rfl)), ⟨rfl, rfl, rfl, rfl, rfl, rfl, rfl, rfl, rfl, rfl⟩, .inr (.inr (.inr ⟨rfl, ⟨⟨rfl, rfl, rfl, rfl⟩, rfl⟩, ⟨rfl, rfl, rfl, rfl⟩, rfl⟩))⟩
  · exact ⟨_, _, _, _, 0, joinP hm hh h0 (pec_1 m g _ _) (by simp [*]) (by decide) (eP (.inl rfl)), joinP hm2 hh h0 (pec_1 (setF m _ _ _ _ _) g _ _) (by simp [setF, *]) (by decide) (eP (.inl rfl)), ⟨rfl, rfl, rfl, rfl, rfl, rfl, rfl, rfl, rfl, rfl⟩, .inr (.inr (.inr ⟨rfl, ⟨⟨rfl, rfl, rfl, rfl⟩, rfl⟩, ⟨rfl, rfl, rfl, rfl⟩, rfl⟩))⟩
theorem tee {m : Mc} {g : Nat → Int} {s z x p c : Bool} (hm : m.Ok) (hg : ∀ e, B8 (g e)) (hh : m.halt = false) (h0 : g (ix m.pc) = 238) : Tw 31 m (setF m s z x p c) g := by
  obtain ⟨r0, r1, r2, r3, r4, r5, r7, sp, pc⟩ := id hm
  have hm2 := setF_ok (s := s) (z := z) (x := x) (p := p) (c := c) hm
  rcases Bool.eq_false_or_eq_true m.fc with hf | hf <;> cases c
  · exact ⟨_, _, _, _, 0, joinP hm hh h0 (pee_0 m g _ _) (by simp [*]) (by decide) (eP (.inl rfl)), joinP hm2 hh h0 (pee_1 (setF m _ _ _ _ _) g _ _) (by simp [setF, *]) (by decide) (eP (.inl rfl)), ⟨rfl, rfl, rfl, rfl, rfl, rfl, rfl, rfl, rfl, rfl⟩, .inl ⟨rfl, ⟨rfl, rfl, rfl, rfl⟩, rfl⟩⟩
  · exact ⟨_, _, _, _, 0, joinP hm hh h0 (pee_0 m g _ _) (by simp [*]) (by decide) (eP (.inl rfl)), joinP hm2 hh h0 (pee_0 (setF m _ _ _ _ _) g _ _) (by simp [setF, *]) (by decide) (eP (.inl rfl)), ⟨rfl, rfl, rfl, rfl, rfl, rfl, rfl, rfl, rfl, rfl⟩, .inl ⟨rfl, ⟨rfl, rfl, rfl, rfl⟩, rfl⟩⟩
  · exact ⟨_, _, _, _, 0, joinP hm hh h0 (pee_1 m g _ _) (by simp [*]) (by decide) (eP (.inl rfl)), joinP hm2 hh h0 (pee_1 (setF m _ _ _ _ _) g _ _) (by simp [setF, *]) (by decide) (eP (.inl rfl)), ⟨rfl, rfl, rfl, rfl, rfl, rfl, rfl, rfl, rfl, rfl⟩, .inl ⟨rfl, ⟨rfl, rfl, rfl, rfl⟩, rfl⟩⟩
  · exact ⟨_, _, _, _, 0, joinP hm hh h0 (pee_1 m g _ _) (by simp [*]) (by decide) (eP (.inl rfl)), joinP hm2 hh h0 (pee_0 (setF m _ _ _ _ _) g _ _) (by simp [setF, *]) (by decide) (eP (.inl rfl)), ⟨rfl, rfl, rfl, rfl, rfl, rfl, rfl, rfl, rfl, rfl⟩, .inl ⟨rfl, ⟨rfl, rfl, rfl, rfl⟩, rfl⟩⟩
theorem tef {m : Mc} {g : Nat → Int} {s z x p c : Bool} (hm : m.Ok) (hg : ∀ e, B8 (g e)) (hh : m.halt = false) (h0 : g (ix m.pc) = 239) : Tw 0 m (setF m s z x p c) g := by
  obtain ⟨r0, r1, r2, r3, r4, r5, r7, sp, pc⟩ := id hm
  have hm2 := setF_ok (s := s) (z := z) (x := x) (p := p) (c := c) hm
  exact ⟨_, _, _, _, 0, joinP hm hh h0 (pef_0 m g _ _) (by simp [*]) (by decide) (eP (m2s rfl rfl rfl rfl)), joinP hm2 hh h0 (pef_0 (setF m _ _ _ _ _) g _ _) (by simp [setF, *]) (by decide) (eP (m2s rfl rfl rfl rfl)), ⟨rfl, rfl, rfl, rfl, rfl, rfl, rfl, rfl, rfl, rfl⟩, .inr (.inr (.inr ⟨rfl, ⟨⟨rfl, rfl, rfl, rfl⟩, rfl⟩, ⟨rfl, rfl, rfl, rfl⟩, rfl⟩))⟩
end Go.Proofs.Ytdjmpilegommlaa
namespace Go.Proofs.Ytdjmpilegommlaa
open Go Go.Ly Go.RowKit
@[simp] def zf0_0 (m : Mc) (g : Nat → Int) : Mc := { m with pc := or16 (w16 (g (ix (w16 (w16 (m.sp + 2) - 2))))) (w16 (w16 (g (ix (w16 (w16 (w16 (m.sp + 2) - 2) + 1)))) * 256)), sp := w16 (m.sp + 2) }
theorem pf0_0 (m : Mc) (g : Nat → Int) (b1 b2 : Int) : endsAt [0, 1] (Ly.run cx3 3000 [(43, true), (0, true), (0, true), (0, true), (0, true)] (sP m g 240 b1 b2)) = some (T [m.fs == false, rg (w16 (w16 (m.sp + 2) - 2)), bl (ix (w16 (w16 (m.sp + 2) - 2))), rg (w16 (w16 (w16 (m.sp + 2) - 2) + 1)), bl (ix (w16 (w16 (w16 (m.sp + 2) - 2) + 1)))], .int .i64 0, 6, hPm (zf0_0 m g) (memL g)) := by kernel_rfl
theorem pf0_1 (m : Mc) (g : Nat → Int) (b1 b2 : Int) : endsAt [0, 1] (Ly.run cx3 3000 [(43, false)] (sP m g 240 b1 b2)) = some ([(m.fs == false, false)], .int .i64 0, 6, hPm { m with pc := w16 (m.pc + 1) } (memL g)) := by kernel_rfl
@[simp] def zf1_0 (m : Mc) (g : Nat → Int) : Mc := { m with fc := w8 (or16 (w16 (g (ix (w16 (w16 (m.sp + 2) - 2))))) (w16 (w16 (g (ix (w16 (w16 (w16 (m.sp + 2) - 2) + 1)))) * 256))) % 2 == 1, fp := w8 (or16 (w16 (g (ix (w16 (w16 (m.sp + 2) - 2))))) (w16 (w16 (g (ix (w16 (w16 (w16 (m.sp + 2) - 2) + 1)))) * 256))) / 4 % 2 == 1, fs := decide (128 ≤ w8 (or16 (w16 (g (ix (w16 (w16 (m.sp + 2) - 2))))) (w16 (w16 (g (ix (w16 (w16 (w16 (m.sp + 2) - 2) + 1)))) * 256)))), fx := w8 (or16 (w16 (g (ix (w16 (w16 (m.sp + 2) - 2))))) (w16 (w16 (g (ix (w16 (w16 (w16 (m.sp + 2) - 2) + 1)))) * 256))) / 16 % 2 == 1, fz := w8 (or16 (w16 (g (ix (w16 (w16 (m.sp + 2) - 2))))) (w16 (w16 (g (ix (w16 (w16 (w16 (m.sp + 2) - 2) + 1)))) * 256))) / 64 % 2 == 1, pc := w16 (m.pc + 1), r7 := w8 ((or16 (w16 (g (ix (w16 (w16 (m.sp + 2) - 2))))) (w16 (w16 (g (ix (w16 (w16 (w16 (m.sp + 2) - 2) + 1)))) * 256))).fdiv 256), sp := w16 (m.sp + 2) }
theorem pf1_0 (m : Mc) (g : Nat → Int) (b1 b2 : Int) : endsAt [0, 1] (Ly.run cx3 3000 [(45, true), (0, true), (0, true), (0, true), (3, true)] (sP m g 241 b1 b2)) = some (T [rg (w16 (w16 (m.sp + 2) - 2)), bl (ix (w16 (w16 (m.sp + 2) - 2))), rg (w16 (w16 (w16 (m.sp + 2) - 2) + 1)), bl (ix (w16 (w16 (w16 (m.sp + 2) - 2) + 1))), inb (w8 (or16 (w16 (g (ix (w16 (w16 (m.sp + 2) - 2))))) (w16 (w16 (g (ix (w16 (w16 (w16 (m.sp + 2) - 2) + 1)))) * 256))))], .int .i64 0, 5, hPm (zf1_0 m g) (memL g)) := by kernel_rfl
theorem pf2_0 (m : Mc) (g : Nat → Int) (b1 b2 : Int) : endsAt [0, 1] (Ly.run cx3 3000 [(51, true)] (sP m g 242 b1 b2)) = some (T [m.fs == false], .int .i64 0, 6, hPm { m with pc := or16 (w16 (or16 0 (w16 b2) * 256)) (w16 b1) } (memL g)) := by kernel_rfl
theorem pf2_1 (m : Mc) (g : Nat → Int) (b1 b2 : Int) : endsAt [0, 1] (Ly.run cx3 3000 [(51, false)] (sP m g 242 b1 b2)) = some ([(m.fs == false, false)], .int .i64 0, 6, hPm { m with pc := w16 (m.pc + 3) } (memL g)) := by kernel_rfl
@[simp] def zf3_0 (m : Mc) : Mc := { m with ie := false, pc := w16 (m.pc + 1) }
theorem pf3_0 (m : Mc) (g : Nat → Int) (b1 b2 : Int) : endsAt [0, 1] (Ly.run cx3 3000 [] (sP m g 243 b1 b2)) = some (T [], .int .i64 0, 5, hPm (zf3_0 m) (memL g)) := by kernel_rfl
theorem pf4_0 (m : Mc) (g : Nat → Int) (b1 b2 : Int) : endsAt [0, 1] (Ly.run cx3 3000 [(53, true), (3, true), (0, true), (2, true), (0, true)] (sP m g 244 b1 b2)) = some (T [m.fs == false, rg (w16 (m.sp - 2)), bl (ix (w16 (m.sp - 2))), rg (w16 (w16 (m.sp - 2) + 1)), bl (ix (w16 (w16 (m.sp - 2) + 1)))], .int .i64 0, 7, hPm { m with pc := or16 (w16 (or16 0 (w16 b2) * 256)) (w16 b1), sp := w16 (m.sp - 2) } (M2 g (ix (w16 (m.sp - 2))) (w8 (w16 (m.pc + 3))) (ix (w16 (w16 (m.sp - 2) + 1))) (w8 ((w16 (m.pc + 3)).fdiv 256)))) := by kernel_rfl
theorem pf4_1 (m : Mc) (g : Nat → Int) (b1 b2 : Int) : endsAt [0, 1] (Ly.run cx3 3000 [(53, false)] (sP m g 244 b1 b2)) = some ([(m.fs == false, false)], .int .i64 0, 6, hPm { m with pc := w16 (m.pc + 3) } (memL g)) := by kernel_rfl
@[simp] def zf5_0 (m : Mc) : Mc := { m with pc := w16 (m.pc + 1), sp := w16 (m.sp - 2) }
theorem pf5_0 (m : Mc) (g : Nat → Int) (b1 b2 : Int) : endsAt [0, 1] (Ly.run cx3 3000 [(59, true), (0, true), (2, true), (0, true)] (sP m g 245 b1 b2)) = some (T [rg (w16 (m.sp - 2)), bl (ix (w16 (m.sp - 2))), rg (w16 (w16 (m.sp - 2) + 1)), bl (ix (w16 (w16 (m.sp - 2) + 1)))], .int .i64 0, 6, hPm (zf5_0 m) (M2 g (ix (w16 (m.sp - 2))) (w8 (or16 (w16 (w16 m.r7 * 256)) (w16 (128 * cI m.fs + 64 * cI m.fz + 16 * cI m.fx + 4 * cI m.fp + 2 + cI m.fc)))) (ix (w16 (w16 (m.sp - 2) + 1))) (w8 ((or16 (w16 (w16 m.r7 * 256)) (w16 (128 * cI m.fs + 64 * cI m.fz + 16 * cI m.fx + 4 * cI m.fp + 2 + cI m.fc))).fdiv 256)))) := by kernel_rfl
@[simp] def zf6_0 (m : Mc) (g : Nat → Int) : Mc := { m with fc := false, fp := par (or8 m.r7 (w8 (or16 0 (w16 (g (at1 m.pc 1)))))), fs := decide (128 ≤ or8 m.r7 (w8 (or16 0 (w16 (g (at1 m.pc 1)))))), fx := false, fz := or8 m.r7 (w8 (or16 0 (w16 (g (at1 m.pc 1))))) == 0, pc := w16 (m.pc + 2), r7 := or8 m.r7 (w8 (or16 0 (w16 (g (at1 m.pc 1))))) }
@[simp] def zf6_1 (m : Mc) (b1 : Int) : Mc := { m with fc := false, fp := par (or8 m.r7 (w8 (or16 0 (w16 b1)))), fs := decide (128 ≤ or8 m.r7 (w8 (or16 0 (w16 b1)))), fx := false, fz := or8 m.r7 (w8 (or16 0 (w16 b1))) == 0, pc := w16 (m.pc + 2), r7 := or8 m.r7 (w8 (or16 0 (w16 b1))) }
theorem pf6_0 (m : Mc) (g : Nat → Int) (b1 b2 : Int) : endsAt [0, 1] (Ly.run cx3 3000 [(21, true), (10, true)] (sP m g 246 b1 b2)) = some (T [m.fc == true, inb m.r7 && inb (w8 (or16 0 (w16 b1)))], .int .i64 0, 5, hPm (zf6_1 m b1) (memL g)) := by kernel_rfl
theorem pf6_1 (m : Mc) (g : Nat → Int) (b1 b2 : Int) : endsAt [0, 1] (Ly.run cx3 3000 [(21, false), (10, true)] (sP m g 246 b1 b2)) = some ([(m.fc == true, false), (inb m.r7 && inb (w8 (or16 0 (w16 b1))), true)], .int .i64 0, 5, hPm (zf6_1 m b1) (memL g)) := by kernel_rfl
@[simp] def zf7_0 (m : Mc) : Mc := { m with pc := 48, sp := w16 (m.sp - 2) }
theorem pf7_0 (m : Mc) (g : Nat → Int) (b1 b2 : Int) : endsAt [0, 1] (Ly.run cx3 3000 [(44, true), (0, true), (2, true), (0, true)] (sP m g 247 b1 b2)) = some (T [rg (w16 (m.sp - 2)), bl (ix (w16 (m.sp - 2))), rg (w16 (w16 (m.sp - 2) + 1)), bl (ix (w16 (w16 (m.sp - 2) + 1)))], .int .i64 0, 6, hPm (zf7_0 m) (M2 g (ix (w16 (m.sp - 2))) (w8 (w16 (m.pc + 1))) (ix (w16 (w16 (m.sp - 2) + 1))) (w8 ((w16 (m.pc + 1)).fdiv 256)))) := by kernel_rfl
@[simp] def zf8_0 (m : Mc) (g : Nat → Int) : Mc := { m with pc := or16 (w16 (g (ix (w16 (w16 (m.sp + 2) - 2))))) (w16 (w16 (g (ix (w16 (w16 (w16 (m.sp + 2) - 2) + 1)))) * 256)), sp := w16 (m.sp + 2) }
theorem pf8_0 (m : Mc) (g : Nat → Int) (b1 b2 : Int) : endsAt [0, 1] (Ly.run cx3 3000 [(43, true), (0, true), (0, true), (0, true), (0, true)] (sP m g 248 b1 b2)) = some (T [m.fs == true, rg (w16 (w16 (m.sp + 2) - 2)), bl (ix (w16 (w16 (m.sp + 2) - 2))), rg (w16 (w16 (w16 (m.sp + 2) - 2) + 1)), bl (ix (w16 (w16 (w16 (m.sp + 2) - 2) + 1)))], .int .i64 0, 6, hPm (zf8_0 m g) (memL g)) := by kernel_rfl
theorem pf8_1 (m : Mc) (g : Nat → Int) (b1 b2 : Int) : endsAt [0, 1] (Ly.run cx3 3000 [(43, false)] (sP m g 248 b1 b2)) = some ([(m.fs == true, false)], .int .i64 0, 6, hPm { m with pc := w16 (m.pc + 1) } (memL g)) := by kernel_rfl
@[simp] def zf9_0 (m : Mc) : Mc := { m with pc := w16 (m.pc + 1), sp := or16 (w16 (w16 m.r4 * 256)) (w16 m.r5) }
theorem pf9_0 (m : Mc) (g : Nat → Int) (b1 b2 : Int) : endsAt [0, 1] (Ly.run cx3 3000 [] (sP m g 249 b1 b2)) = some (T [], .int .i64 0, 5, hPm (zf9_0 m) (memL g)) := by kernel_rfl
theorem pfa_0 (m : Mc) (g : Nat → Int) (b1 b2 : Int) : endsAt [0, 1] (Ly.run cx3 3000 [(51, true)] (sP m g 250 b1 b2)) = some (T [m.fs == true], .int .i64 0, 6, hPm { m with pc := or16 (w16 (or16 0 (w16 b2) * 256)) (w16 b1) } (memL g)) := by kernel_rfl
theorem pfa_1 (m : Mc) (g : Nat → Int) (b1 b2 : Int) : endsAt [0, 1] (Ly.run cx3 3000 [(51, false)] (sP m g 250 b1 b2)) = some ([(m.fs == true, false)], .int .i64 0, 6, hPm { m with pc := w16 (m.pc + 3) } (memL g)) := by kernel_rfl
@[simp] def zfb_0 (m : Mc) : Mc := { m with ie := true, pc := w16 (m.pc + 1) }
theorem pfb_0 (m : Mc) (g : Nat → Int) (b1 b2 : Int) : endsAt [0, 1] (Ly.run cx3 3000 [] (sP m g 251 b1 b2)) = some (T [], .int .i64 0, 5, hPm (zfb_0 m) (memL g)) := by kernel_rfl
theorem pfc_0 (m : Mc) (g : Nat → Int) (b1 b2 : Int) : endsAt [0, 1] (Ly.run cx3 3000 [(53, true), (3, true), (0, true), (2, true), (0, true)] (sP m g 252 b1 b2)) = some (T [m.fs == true, rg (w16 (m.sp - 2)), bl (ix (w16 (m.sp - 2))), rg (w16 (w16 (m.sp - 2) + 1)), bl (ix (w16 (w16 (m.sp - 2) + 1)))], .int .i64 0, 7, hPm { m with pc := or16 (w16 (or16 0 (w16 b2) * 256)) (w16 b1), sp := w16 (m.sp - 2) } (M2 g (ix (w16 (m.sp - 2))) (w8 (w16 (m.pc + 3))) (ix (w16 (w16 (m.sp - 2) + 1))) (w8 ((w16 (m.pc + 3)).fdiv 256)))) := by kernel_rfl
theorem pfc_1 (m : Mc) (g : Nat → Int) (b1 b2 : Int) : endsAt [0, 1] (Ly.run cx3 3000 [(53, false)] (sP m g 252 b1 b2)) = some ([(m.fs == true, false)], .int .i64 0, 6, hPm { m with pc := w16 (m.pc + 3) } (memL g)) := by kernel_rfl
@[simp] def zfe_0 (m : Mc) (g : Nat → Int) : Mc := { m with fc := decide (m.r7 - w8 (or16 0 (w16 (g (at1 m.pc 1)))) - 0 < 0), fp := par ((m.r7 - w8 (or16 0 (w16 (g (at1 m.pc 1)))) - 0) % 256), fs := decide (128 ≤ (m.r7 - w8 (or16 0 (w16 (g (at1 m.pc 1)))) - 0) % 256), fx := decide (15 < m.r7 % 16 + 15 - w8 (or16 0 (w16 (g (at1 m.pc 1)))) % 16 + 1), fz := (m.r7 - w8 (or16 0 (w16 (g (at1 m.pc 1)))) - 0) % 256 == 0, pc := w16 (m.pc + 2) }
@[simp] def zfe_1 (m : Mc) (b1 : Int) : Mc := { m with fc := decide (m.r7 - w8 (or16 0 (w16 b1)) - 0 < 0), fp := par ((m.r7 - w8 (or16 0 (w16 b1)) - 0) % 256), fs := decide (128 ≤ (m.r7 - w8 (or16 0 (w16 b1)) - 0) % 256), fx := decide (15 < m.r7 % 16 + 15 - w8 (or16 0 (w16 b1)) % 16 + 1), fz := (m.r7 - w8 (or16 0 (w16 b1)) - 0) % 256 == 0, pc := w16 (m.pc + 2) }
theorem pfe_0 (m : Mc) (g : Nat → Int) (b1 b2 : Int) : endsAt [0, 1] (Ly.run cx3 3000 [(21, true), (11, true)] (sP m g 254 b1 b2)) = some (T [m.fc == true, inb m.r7 && inb (w8 (or16 0 (w16 b1)))], .int .i64 0, 5, hPm (zfe_1 m b1) (memL g)) := by kernel_rfl
theorem pfe_1 (m : Mc) (g : Nat → Int) (b1 b2 : Int) : endsAt [0, 1] (Ly.run cx3 3000 [(21, false), (11, true)] (sP m g 254 b1 b2)) = some ([(m.fc == true, false), (inb m.r7 && inb (w8 (or16 0 (w16 b1))), true)], .int .i64 0, 5, hPm (zfe_1 m b1) (memL g)) := by kernel_rfl
@[simp] def zff_0 (m : Mc) : Mc := { m with pc := 56, sp := w16 (m.sp - 2) }
theorem pff_0 (m : Mc) (g : Nat → Int) (b1 b2 : Int) : endsAt [0, 1] (Ly.run cx3 3000 [(44, true), (0, true), (2, true), (0, true)] (sP m g 255 b1 b2)) = some (T [rg (w16 (m.sp - 2)), bl (ix (w16 (m.sp - 2))), rg (w16 (w16 (m.sp - 2) + 1)), bl (ix (w16 (w16 (m.sp - 2) + 1)))], .int .i64 0, 6, hPm (zff_0 m) (M2 g (ix (w16 (m.sp - 2))) (w8 (w16 (m.pc + 1))) (ix (w16 (w16 (m.sp - 2) + 1))) (w8 ((w16 (m.pc + 1)).fdiv 256)))) := by kernel_rfl
end Go.Proofs.Ytdjmpilegommlaa
namespace Go.Proofs.Ytdjmpilegommlaa
open Go Go.Ly Go.RowKit
theorem tf0 {m : Mc} {g : Nat → Int} {s z x p c : Bool} (hm : m.Ok) (hg : ∀ e, B8 (g e)) (hh : m.halt = false) (h0 : g (ix m.pc) = 240) (hs : m.fs = s) : Tw 0 m (setF m s z x p c) g := by
  subst hs
  obtain ⟨r0, r1, r2, r3, r4, r5, r7, sp, pc⟩ := id hm
  have hm2 := setF_ok (s := m.fs) (z := z) (x := x) (p := p) (c := c) hm
  rcases Bool.eq_false_or_eq_true m.fs with hf | hf
  · exact ⟨_, _, _, _, 0, joinP hm hh h0 (pf0_1 m g _ _) (by simp [*]) (by decide) (eP (.inl rfl)), joinP hm2 hh h0 (pf0_1 (setF m _ _ _ _ _) g _ _) (by simp [setF, *]) (by decide) (eP (.inl rfl)), ⟨rfl, rfl, rfl, rfl, rfl, rfl, rfl, rfl, rfl, rfl⟩, .inr (.inr (.inr ⟨rfl, ⟨⟨rfl, rfl, rfl, rfl⟩, rfl⟩, ⟨rfl, rfl, rfl, rfl⟩, rfl⟩))⟩
  · exact ⟨_, _, _, _, 0, joinP hm hh h0 (pf0_0 m g _ _) (by simp [*]) (by decide) (eP (.inl rfl)), joinP hm2 hh h0 (pf0_0 (setF m _ _ _ _ _) g _ _) (by simp [setF, *]) (by decide) (eP (.inl rfl)), ⟨rfl, rfl, rfl, rfl, rfl, rfl, rfl, rfl, rfl, rfl⟩, .inr (.inr (.inr ⟨rfl, ⟨⟨rfl, rfl, rfl, rfl⟩, rfl⟩, ⟨rfl, rfl, rfl, rfl⟩, rfl⟩))⟩
theorem tf1 {m : Mc} {g : Nat → Int} {s z x p c : Bool} (hm : m.Ok) (hg : ∀ e, B8 (g e)) (hh : m.halt = false) (h0 : g (ix m.pc) = 241) : Tw 31 m (setF m s z x p c) g := by
  obtain ⟨r0, r1, r2, r3, r4, r5, r7, sp, pc⟩ := id hm
  have hm2 := setF_ok (s := s) (z := z) (x := x) (p := p) (c := c) hm
  exact ⟨_, _, _, _, 0, joinP hm hh h0 (pf1_0 m g _ _) (by simp [*]) (by decide) (eP (.inl rfl)), joinP hm2 hh h0 (pf1_0 (setF m _ _ _ _ _) g _ _) (by simp [setF, *]) (by decide) (eP (.inl rfl)), ⟨rfl, rfl, rfl, rfl, rfl, rfl, rfl, rfl, rfl, rfl⟩, .inl ⟨rfl, ⟨rfl, rfl, rfl, rfl⟩, rfl⟩⟩
theorem tf2 {m : Mc} {g : Nat → Int} {s z x p c : Bool} (hm : m.Ok) (hg : ∀ e, B8 (g e)) (hh : m.halt = false) (h0 : g (ix m.pc) = 242) (hs : m.fs = s) : Tw 0 m (setF m s z x p c) g := by
  subst hs
  obtain ⟨r0, r1, r2, r3, r4, r5, r7, sp, pc⟩ := id hm
  have hm2 := setF_ok (s := m.fs) (z := z) (x := x) (p := p) (c := c) hm
  rcases Bool.eq_false_or_eq_true m.fs with hf | hf
  · exact ⟨_, _, _, _, 0, joinP hm hh h0 (pf2_1 m g _ _) (by simp [*]) (by decide) (eP (.inl rfl)), joinP hm2 hh h0 (pf2_1 (setF m _ _ _ _ _) g _ _) (by simp [setF, *]) (by decide) (eP (.inl rfl)), ⟨rfl, rfl, rfl, rfl, rfl, rfl, rfl, rfl, rfl, rfl⟩, .inr (.inr (.inr ⟨rfl, ⟨⟨rfl, rfl, rfl, rfl⟩, rfl⟩, ⟨rfl, rfl, rfl, rfl⟩, rfl⟩))⟩
  · exact ⟨_, _, _, _, 0, joinP hm hh h0 (pf2_0 m g _ _) (by simp [*]) (by decide) (eP (.inl rfl)), joinP hm2 hh h0 (pf2_0 (setF m _ _ _ _ _) g _ _) (by simp [setF, *]) (by decide) (eP (.inl rfl)), ⟨rfl, rfl, rfl, rfl, rfl, rfl, rfl, rfl, rfl, rfl⟩, .inr (.inr (.inr ⟨rfl, ⟨⟨rfl, rfl, rfl, rfl⟩, rfl⟩, ⟨rfl, rfl, rfl, rfl⟩, rfl⟩))⟩
theorem tf3 {m : Mc} {g : Nat → Int} {s z x p c : Bool} (hm : m.Ok) (hg : ∀ e, B8 (g e)) (hh : m.halt = false) (h0 : g (ix m.pc) = 243) : Tw 0 m (setF m s z x p c) g := by
  obtain ⟨r0, r1, r2, r3, r4, r5, r7, sp, pc⟩ := id hm
  have hm2 := setF_ok (s := s) (z := z) (x := x) (p := p) (c := c) hm
  exact ⟨_, _, _, _, 0, joinP hm hh h0 (pf3_0 m g _ _) (by simp [*]) (by decide) (eP (.inl rfl)), joinP hm2 hh h0 (pf3_0 (setF m _ _ _ _ _) g _ _) (by simp [setF, *]) (by decide) (eP (.inl rfl)), ⟨rfl, rfl, rfl, rfl, rfl, rfl, rfl, rfl, rfl, rfl⟩, .inr (.inr (.inr ⟨rfl, ⟨⟨rfl, rfl, rfl, rfl⟩, rfl⟩, ⟨rfl, rfl, rfl, rfl⟩, rfl⟩))⟩
theorem tf4 {m : Mc} {g : Nat → Int} {s z x p c : Bool} (hm : m.Ok) (hg : ∀ e, B8 (g e)) (hh : m.halt = false) (h0 : g (ix m.pc) = 244) (hs : m.fs = s) : Tw 0 m (setF m s z x p c) g := by
  subst hs
  obtain ⟨r0, r1, r2, r3, r4, r5, r7, sp, pc⟩ := id hm
  have hm2 := setF_ok (s := m.fs) (z := z) (x := x) (p := p) (c := c) hm
  rcases Bool.eq_false_or_eq_true m.fs with hf | hf
  · exact ⟨_, _, _, _, 0, joinP hm hh h0 (pf4_1 m g _ _) (by simp [*]) (by decide) (eP (.inl rfl)), joinP hm2 hh h0 (pf4_1 (setF m _ _ _ _ _) g _ _) (by simp [setF, *]) (by decide) (eP (.inl rfl)), ⟨rfl, rfl, rfl, rfl, rfl, rfl, rfl, rfl, rfl, rfl⟩, .inr (.inr (.inr ⟨rfl, ⟨⟨rfl, rfl, rfl, rfl⟩, rfl⟩, ⟨rfl, rfl, rfl, rfl⟩, rfl⟩))⟩
  · exact ⟨_, _, _, _, 0, joinP hm hh h0 (pf4_0 m g _ _) (by simp [*]) (by decide) (eP (m2s rfl rfl rfl rfl)), joinP hm2 hh h0 (pf4_0 (setF m _ _ _ _ _) g _ _) (by simp [setF, *]) (by decide) (eP (m2s rfl rfl rfl rfl)), ⟨rfl, rfl, rfl, rfl, rfl, rfl, rfl, rfl, rfl, rfl⟩, .inr (.inr (.inr ⟨rfl, ⟨⟨rfl, rfl, rfl, rfl⟩, rfl⟩, ⟨rfl, rfl, rfl, rfl⟩, rfl⟩))⟩
theorem tf5 {m : Mc} {g : Nat → Int} {s z x p c : Bool} (hm : m.Ok) (hg : ∀ e, B8 (g e)) (hh : m.halt = false) (h0 : g (ix m.pc) = 245) (hs : m.fs = s) (hz : m.fz = z) (hx : m.fx = x) (hp : m.fp = p) (hc : m.fc = c) : Tw 0 m (setF m s z x p c) g := by
  subst hs
  subst hz
  subst hx
  subst hp
  subst hc
  obtain ⟨r0, r1, r2, r3, r4, r5, r7, sp, pc⟩ := id hm
  have hm2 := setF_ok (s := m.fs) (z := m.fz) (x := m.fx) (p := m.fp) (c := m.fc) hm
  exact ⟨_, _, _, _, 0, joinP hm hh h0 (pf5_0 m g _ _) (by simp [*]) (by decide) (eP (m2s rfl rfl rfl rfl)), joinP hm2 hh h0 (pf5_0 (setF m _ _ _ _ _) g _ _) (by simp [setF, *]) (by decide) (eP (m2s rfl rfl rfl rfl)), ⟨rfl, rfl, rfl, rfl, rfl, rfl, rfl, rfl, rfl, rfl⟩, .inr (.inr (.inr ⟨rfl, ⟨⟨rfl, rfl, rfl, rfl⟩, rfl⟩, ⟨rfl, rfl, rfl, rfl⟩, rfl⟩))⟩
theorem tf6 {m : Mc} {g : Nat → Int} {s z x p c : Bool} (hm : m.Ok) (hg : ∀ e, B8 (g e)) (hh : m.halt = false) (h0 : g (ix m.pc) = 246) : Tw 31 m (setF m s z x p c) g := by
  obtain ⟨r0, r1, r2, r3, r4, r5, r7, sp, pc⟩ := id hm
  have hm2 := setF_ok (s := s) (z := z) (x := x) (p := p) (c := c) hm
  rcases Bool.eq_false_or_eq_true m.fc with hf | hf <;> cases c
  · exact ⟨_, _, _, _, 0, joinP hm hh h0 (pf6_0 m g _ _) (by simp [*]) (by decide) (eP (.inl rfl)), joinP hm2 hh h0 (pf6_1 (setF m _ _ _ _ _) g _ _) (by simp [setF, *]) (by decide) (eP (.inl rfl)), ⟨rfl, rfl, rfl, rfl, rfl, rfl, rfl, rfl, rfl, rfl⟩, .inl ⟨rfl, ⟨rfl, rfl, rfl, rfl⟩, rfl⟩⟩
  · exact ⟨_, _, _, _, 0, joinP hm hh h0 (pf6_0 m g _ _) (by simp [*]) (by decide) (eP (.inl rfl)), joinP hm2 hh h0 (pf6_0 (setF m _ _ _ _ _) g _ _) (by simp [setF, *]) (by decide) (eP (.inl rfl)), ⟨rfl, rfl, rfl, rfl, rfl, rfl, rfl, rfl, rfl, rfl⟩, .inl ⟨rfl, ⟨rfl, rfl, rfl, rfl⟩, rfl⟩⟩
  · exact ⟨_, _, _, _, 0, joinP hm hh h0 (pf6_1 m g _ _) (by simp [*]) (by decide) (eP (.inl rfl)), joinP hm2 hh h0 (pf6_1 (setF m _ _ _ _ _) g _ _) (by simp [setF, *]) (by decide) (eP (.inl rfl)), ⟨rfl, rfl, rfl, rfl, rfl, rfl, rfl, rfl, rfl, rfl⟩, .inl ⟨rfl, ⟨rfl, rfl, rfl, rfl⟩, rfl⟩⟩
  · exact ⟨_, _, _, _, 0, joinP hm hh h0 (pf6_1 m g _ _) (by simp [*]) (by decide) (eP (.inl rfl)), joinP hm2 hh h0 (pf6_0 (setF m _ _ _ _ _) g _ _) (by simp [setF, *]) (by decide) (eP (.inl rfl)), ⟨rfl, rfl, rfl, rfl, rfl, rfl, rfl, rfl, rfl, rfl⟩, .inl ⟨rfl, ⟨rfl, rfl, rfl, rfl⟩, rfl⟩⟩
theorem tf7 {m : Mc} {g : Nat → Int} {s z x p c : Bool} (hm : m.Ok) (hg : ∀ e, B8 (g e)) (hh : m.halt = false) (h0 : g (ix m.pc) = 247) : Tw 0 m (setF m s z x p c) g := by
  obtain ⟨r0, r1, r2, r3, r4, r5, r7, sp, pc⟩ := id hm
  have hm2 := setF_ok (s := s) (z := z) (x := x) (p := p) (c := c) hm
  exact ⟨_, _, _, _, 0, joinP hm hh h0 (pf7_0 m g _ _) (by simp [*]) (by decide) (eP (m2s rfl rfl rfl rfl)), joinP hm2 hh h0 (pf7_0 (setF m _ _ _ _ _) g _ _) (by simp [setF, *]) (by decide) (eP (m2s rfl rfl rfl rfl)), ⟨rfl, rfl, rfl, rfl, rfl, rfl, rfl, rfl, rfl, rfl⟩, .inr (.inr (.inr ⟨rfl, ⟨⟨rfl, rfl, rfl, rfl⟩, rfl⟩, ⟨rfl, rfl, rfl, rfl⟩, rfl⟩))⟩
theorem tf8 {m : Mc} {g : Nat → Int} {s z x p c : Bool} (hm : m.Ok) (hg : ∀ e, B8 (g e)) (hh : m.halt = false) (h0 : g (ix m.pc) = 248) (hs : m.fs = s) : Tw 0 m (setF m s z x p c) g := by
  subst hs
  obtain ⟨r0, r1, r2, r3, r4, r5, r7, sp, pc⟩ := id hm
  have hm2 := setF_ok (s := m.fs) (z := z) (x := x) (p := p) (c := c) hm
  rcases Bool.eq_false_or_eq_true m.fs with hf | hf
  · exact ⟨_, _, _, _, 0, joinP hm hh h0 (pf8_0 m g _ _) (by simp [*]) (by decide) (eP (.inl rfl)), joinP hm2 hh h0 (pf8_0 (setF m _ _ _ _ _) g _ _) (by simp [setF, *]) (by decide) (eP (.inl rfl)), ⟨rfl, rfl, rfl, rfl, rfl, rfl, rfl, rfl, rfl, rfl⟩, .inr (.inr (.inr ⟨rfl, ⟨⟨rfl, rfl, rfl, rfl⟩, rfl⟩, ⟨rfl, rfl, rfl, rfl⟩, rfl⟩))⟩
  · exact ⟨_, _, _, _, 0, joinP hm hh h0 (pf8_1 m g _ _) (by simp [*]) (by decide) (eP (.inl rfl)), joinP hm2 hh h0 (pf8_1 (setF m _ _ _ _ _) g _ _) (by simp [setF, *]) (by decide) (eP (.inl rfl)), ⟨rfl, rfl, rfl, rfl, rfl, rfl, rfl, rfl, rfl, rfl⟩, .inr (.inr (.inr ⟨rfl, ⟨⟨rfl, rfl, rfl, rfl⟩, rfl⟩, ⟨rfl, rfl, rfl, rfl⟩, rfl⟩))⟩
theorem tf9 {m : Mc} {g : Nat → Int} {s z x p c : Bool} (hm : m.Ok) (hg : ∀ e, B8 (g e)) (hh : m.halt = false) (h0 : g (ix m.pc) = 249) : Tw 0 m (setF m s z x p c) g := by
  obtain ⟨r0, r1, r2, r3, r4, r5, r7, sp, pc⟩ := id hm
  have hm2 := setF_ok (s := s) (z := z) (x := x) (p := p) (c := c) hm
  exact ⟨_, _, _, _, 0, joinP hm hh h0 (pf9_0 m g _ _) (by simp [*]) (by decide) (eP (.inl rfl)), joinP hm2 hh h0 (pf9_0 (setF m _ _ _ _ _) g _ _) (by simp [setF, *]) (by decide) (eP (.inl rfl)), ⟨rfl, rfl, rfl, rfl, rfl, rfl, rfl, rfl, rfl, rfl⟩, .inr (.inr (.inr ⟨rfl, ⟨⟨rfl, rfl, rfl, rfl⟩, rfl⟩, ⟨rfl, rfl, rfl, rfl⟩, rfl⟩))⟩
theorem tfa {m : Mc} {g : Nat → Int} {s z x p c : Bool} (hm : m.Ok) (hg : ∀ e, B8 (g e)) (hh : m.halt = false) (h0 : g (ix m.pc) = 250) (hs : m.fs = s) : Tw 0 m (setF m s z x p c) g := by
  subst hs
  obtain ⟨r0, r1, r2, r3, r4, r5, r7, sp, pc⟩ := id hm
  have hm2 := setF_ok (s := m.fs) (z := z) (x := x) (p := p) (c := c) hm
  rcases Bool.eq_false_or_eq_true m.fs with hf | hf
  · exact ⟨_, _, _, _, 0, joinP hm hh h0 (pfa_0 m g _ _) (by simp [*]) (by decide) (eP (.inl rfl)), joinP hm2 hh h0 (pfa_0 (setF m _ _ _ _ _) g _ _) (by simp [setF, *]) (by decide) (eP (.inl rfl)), ⟨rfl, rfl, rfl, rfl, rfl, rfl, rfl, rfl, rfl, rfl⟩, .inr (.inr (.inr ⟨rfl, ⟨⟨rfl, rfl, rfl, rfl⟩, rfl⟩, ⟨rfl, rfl, rfl, rfl⟩, rfl⟩))⟩
  · exact ⟨_, _, _, _, 0, joinP hm hh h0 (pfa_1 m g _ _) (by simp [*]) (by decide) (eP (.inl rfl)), joinP hm2 hh h0 (pfa_1 (setF m _ _ _ _ _) g _ _) (by simp [setF, *]) (by decide) (eP (.inl rfl)), ⟨rfl, rfl, rfl, rfl, rfl, rfl, rfl, rfl, rfl, rfl⟩, .inr (.inr (.inr ⟨rfl, ⟨⟨rfl, rfl, rfl, rfl⟩, rfl⟩, ⟨rfl, rfl, rfl, rfl⟩, rfl⟩))⟩
theorem tfb {m : Mc} {g : Nat → Int} {s z x p c : Bool} (hm : m.Ok) (hg : ∀ e, B8 (g e)) (hh : m.halt = false) (h0 : g (ix m.pc) = 251) : Tw 0 m (setF m s z x p c) g := by
  obtain ⟨r0, r1, r2, r3, r4, r5, r7, sp, pc⟩ := id hm
  have hm2 := setF_ok (s := s) (z := z) (x := x) (p := p) (c := c) hm
  exact ⟨_, _, _, _, 0, joinP hm hh h0 (pfb_0 m g _ _) (by simp [*]) (by decide) (eP (.inl rfl)), joinP hm2 hh h0 (pfb_0 (setF m _ _ _ _ _) g _ _) (by simp [setF, *]) (by decide) (eP (.inl rfl)), ⟨rfl, rfl, rfl, rfl, rfl, rfl, rfl, rfl, rfl, rfl⟩, .inr (.inr (.inr ⟨rfl, ⟨⟨rfl, rfl, rfl, rfl⟩, rfl⟩, ⟨rfl, rfl, rfl, rfl⟩, rfl⟩))⟩
theorem tfc {m : Mc} {g : Nat → Int} {s z x p c : Bool} (hm : m.Ok) (hg : ∀ e, B8 (g e)) (hh : m.halt = false) (h0 : g (ix m.pc) = 252) (hs : m.fs = s) : Tw 0 m (setF m s z x p c) g := by
  subst hs
  obtain ⟨r0, r1, r2, r3, r4, r5, r7, sp, pc⟩ := id hm
  have hm2 := setF_ok (s := m.fs) (z := z) (x := x) (p := p) (c := c) hm
  rcases Bool.eq_false_or_eq_true m.fs with hf | hf
  · exact ⟨_, _, _, _, 0, joinP hm hh h0 (pfc_0 m g _ _) (by simp [*]) (by decide) (eP (m2s rfl rfl rfl rfl)), joinP hm2 hh h0 (pfc_0 (setF m _ _ _ _ _) g _ _) (by simp [setF, *]) (by decide) (eP (m2s rfl rfl rfl rfl)), ⟨rfl, rfl, rfl, rfl, rfl, rfl, rfl, rfl, rfl, rfl⟩, .inr (.inr (.inr ⟨rfl, ⟨⟨rfl, rfl, rfl, rfl⟩, rfl⟩, ⟨rfl, rfl, rfl, rfl⟩, rfl⟩))⟩
  · exact ⟨_, _, _, _, 0, joinP hm hh h0 (pfc_1 m g _ _) (by simp [*]) (by decide) (eP (.inl rfl)), joinP hm2 hh h0 (pfc_1 (setF m _ _ _ _ _) g _ _) (by simp [setF, *]) (by decide) (eP (.inl rfl)), ⟨rfl, rfl, rfl, rfl, rfl, rfl, rfl, rfl, rfl, rfl⟩, .inr (.inr (.inr ⟨rfl, ⟨⟨rfl, rfl, rfl, rfl⟩, rfl⟩, ⟨rfl, rfl, rfl, rfl⟩, rfl⟩))⟩
theorem tfe {m : Mc} {g : Nat → Int} {s z x p c : Bool} (hm : m.Ok) (hg : ∀ e, B8 (g e)) (hh : m.halt = false) (h0 : g (ix m.pc) = 254) : Tw 31 m (setF m s z x p c) g := by
  obtain ⟨r0, r1, r2, r3, r4, r5, r7, sp, pc⟩ := id hm
  have hm2 := setF_ok (s := s) (z := z) (x := x) (p := p) (c := c) hm
  rcases Bool.eq_false_or_eq_true m.fc with hf | hf <;> cases c
  · exact ⟨_, _, _, _, 0, joinP hm hh h0 (pfe_0 m g _ _) (by simp [*]) (by decide) (eP (.inl rfl)), joinP hm2 hh h0 (pfe_1 (setF m _ _ _ _ _) g _ _) (by simp [setF, *]) (by decide) (eP (.inl rfl)), ⟨rfl, rfl, rfl, rfl, rfl, rfl, rfl, rfl, rfl, rfl⟩, .inl ⟨rfl, ⟨rfl, rfl, rfl, rfl⟩, rfl⟩⟩
  · exact ⟨_, _, _, _, 0, joinP hm hh h0 (pfe_0 m g _ _) (by simp [*]) (by decide) (eP (.inl rfl)), joinP hm2 hh h0 (pfe_0 (setF m _ _ _ _ _) g _ _) (by simp [setF, *]) (by decide) (eP (.inl rfl)), ⟨rfl, rfl, rfl, rfl, rfl, rfl, rfl, rfl, rfl, rfl⟩, .inl ⟨rfl, ⟨rfl, rfl, rfl, rfl⟩, rfl⟩⟩
  · exact ⟨_, _, _, _, 0, joinP hm hh h0 (pfe_1 m g _ _) (by simp [*]) (by decide) (eP (.inl rfl)), joinP hm2 hh h0 (pfe_1 (setF m _ _ _ _ _) g _ _) (by simp [setF, *]) (by decide) (eP (.inl rfl)), ⟨rfl, rfl, rfl, rfl, rfl, rfl, rfl, rfl, rfl, rfl⟩, .inl ⟨rfl, ⟨rfl, rfl, rfl, rfl⟩, rfl⟩⟩
  · exact ⟨_, _, _, _, 0, joinP hm hh h0 (pfe_1 m g _ _) (by simp [*]) (by decide) (eP (.inl rfl)), joinP hm2 hh h0 (pfe_0 (setF m _ _ _ _ _) g _ _) (by simp [setF, *]) (by decide) (eP (.inl rfl)), ⟨rfl, rfl, rfl, rfl, rfl, rfl, rfl, rfl, rfl, rfl⟩, .inl ⟨rfl, ⟨rfl, rfl, rfl, rfl⟩, rfl⟩⟩
theorem tff {m : Mc} {g : Nat → Int} {s z x p c : Bool} (hm : m.Ok) (hg : ∀ e, B8 (g e)) (hh : m.halt = false) (h0 : g (ix m.pc) = 255) : Tw 0 m (setF m s z x p c) g := by
  obtain ⟨r0, r1, r2, r3, r4, r5, r7, sp, pc⟩ := id hm
  have hm2 := setF_ok (s := s) (z := z) (x := x) (p := p) (c := c) hm
  exact ⟨_, _, _, _, 0, joinP hm hh h0 (pff_0 m g _ _) (by simp [*]) (by decide) (eP (m2s rfl rfl rfl rfl)), joinP hm2 hh h0 (pff_0 (setF m _ _ _ _ _) g _ _) (by simp [setF, *]) (by decide) (eP (m2s rfl rfl rfl rfl)), ⟨rfl, rfl, rfl, rfl, rfl, rfl, rfl, rfl, rfl, rfl⟩, .inr (.inr (.inr ⟨rfl, ⟨⟨rfl, rfl, rfl, rfl⟩, rfl⟩, ⟨rfl, rfl, rfl, rfl⟩, rfl⟩))⟩
end Go.Proofs.Ytdjmpilegommlaa
namespace Go.Proofs.Ytdjmpilegommlaa
open Go Go.Ly Go.RowKit
def tabI : Option Value → Int → Bool
  | some (.int .i64 x), b => x == b
  | _, _ => false
theorem tabI_eq {o : Option Value} {b : Int} (h : tabI o b = true) : o = some (.int .i64 b) := by
  unfold tabI at h
  split at h
  · simp at h; subst h; rfl
  · cases h
def tabC (T : Int → Int) (l : List Value) : Option (Bool × Value) := match l with
  | [.int .u8 op] => some (inb op, .int .i64 (T op))
  | _ => none
theorem tab_ans {f : Nat} {fn : Func} {T : Int → Int} (hf : env.bare.fn.get f = some fn) (hl : (Nat.ble 1 fn.ntmps && Nat.blt fn.ntmps 1000000) = true)
    (h : ∀ n : Nat, n < 256 → tabI (Ly.run env.bare 60000 [] (Ly.start fn [.int .u8 (n : Int)] H0)).val? (T (n : Int)) = true) : Answers Try.prog f (tabC T) := by
  intro args g v h' hg
  unfold tabC at h'
  split at h'
  · rename_i op
    simp only [Option.some.injEq, Prod.mk.injEq] at h'
    obtain ⟨rfl, rfl⟩ := h'
    rw [inb_iff] at hg
    obtain ⟨n, rfl⟩ := Int.eq_ofNat_of_zero_le hg.1
    refine ⟨by simp [plain, plainL], by simp [plain], fun w => ?_⟩
    exact calls_plain (by simp [VRL, VR]) (fun ρ v' h => by simpa [VR] using h) (LCalls_run (args := [.int .u8 (n : Int)]) (Env.bare_ok envOk) 60000 hf hl (tabI_eq (h n (by omega)))) w
  · cases h'
def usesL : List Nat := [0, 0, 0, 0, 0, 0, 0, 0, 31, 0, 0, 0, 0, 0, 0, 0, 31, 0, 0, 0, 0, 0, 0, 16, 31, 0, 0, 0, 0, 0, 0, 16, 31, 0, 0, 0, 0, 0, 0, 20, 31, 0, 0, 0, 0, 0, 0, 0, 31, 0, 0, 0, 0, 0, 0, 0, 31, 0, 0, 0, 0, 0, 0, 16, 0, 0, 0, 0, 0, 0, 0, 0, 0, 0, 0, 0, 0, 0, 0, 0, 0, 0, 0, 0, 0, 0, 0, 0, 0, 0, 0, 0, 0, 0, 0, 0, 0, 0, 0, 0, 0, 0, 0, 0, 0, 0, 0, 0, 0, 0, 0, 0, 0, 0, 0, 0, 0, 0, 0, 0, 0, 0, 0, 0, 0, 0, 0, 0, 0, 0, 0, 0, 0, 0, 0, 0, 16, 16, 16, 16, 16, 16, 16, 16, 0, 0, 0, 0, 0, 0, 0, 0, 16, 16, 16, 16, 16, 16, 16, 16, 0, 0, 0, 0, 0, 0, 0, 0, 0, 0, 0, 0, 0, 0, 0, 0, 0, 0, 0, 0, 0, 0, 0, 0, 0, 0, 0, 0, 0, 0, 0, 0, 2, 0, 2, 0, 2, 0, 0, 0, 2, 0, 2, 31, 2, 0, 16, 0, 16, 0, 16, 0, 16, 0, 0, 0, 16, 31, 16, 0, 16, 31, 16, 0, 8, 0, 8, 0, 8, 0, 0, 0, 8, 0, 8, 0, 8, 31, 0, 0, 1, 0, 1, 0, 1, 31, 0, 0, 1, 0, 1, 0, 1, 31, 0, 0]
def usesT (op : Int) : Int := ((usesL[op.toNat]?).getD 0 : Nat)
def setsL : List Nat := [0, 0, 0, 0, 15, 15, 0, 16, 0, 16, 0, 0, 15, 15, 0, 16, 0, 0, 0, 0, 15, 15, 0, 16, 0, 16, 0, 0, 15, 15, 0, 16, 0, 0, 0, 0, 15, 15, 0, 31, 0, 16, 0, 0, 15, 15, 0, 0, 0, 0, 0, 0, 15, 15, 0, 16, 0, 16, 0, 0, 15, 15, 0, 16, 0, 0, 0, 0, 0, 0, 0, 0, 0, 0, 0, 0, 0, 0, 0, 0, 0, 0, 0, 0, 0, 0, 0, 0, 0, 0, 0, 0, 0, 0, 0, 0, 0, 0, 0, 0, 0, 0, 0, 0, 0, 0, 0, 0, 0, 0, 0, 0, 0, 0, 0, 0, 0, 0, 0, 0, 0, 0, 0, 0, 0, 0, 0, 0, 31, 31, 31, 31, 31, 31, 31, 31, 31, 31, 31, 31, 31, 31, 31, 31, 31, 31, 31, 31, 31, 31, 31, 31, 31, 31, 31, 31, 31, 31, 31, 31, 31, 31, 31, 31, 31, 31, 31, 31, 31, 31, 31, 31, 31, 31, 31, 31, 31, 31, 31, 31, 31, 31, 31, 31, 31, 31, 31, 31, 31, 31, 31, 31, 0, 0, 0, 0, 0, 0, 31, 0, 0, 0, 0, 0, 0, 0, 31, 0, 0, 0, 0, 0, 0, 0, 31, 0, 0, 0, 0, 0, 0, 0, 31, 0, 0, 0, 0, 0, 0, 0, 31, 0, 0, 0, 0, 0, 0, 0, 31, 0, 0, 31, 0, 0, 0, 0, 31, 0, 0, 0, 0, 0, 0, 0, 31, 0]
def setsT (op : Int) : Int := ((setsL[op.toNat]?).getD 0 : Nat)
end Go.Proofs.Ytdjmpilegommlaa
namespace Go.Proofs.Ytdjmpilegommlaa
open Go Go.Ly Go.RowKit
theorem tw0 {m : Mc} {g : Nat → Int} {s z x p c : Bool} (hm : m.Ok) (hg : ∀ e, B8 (g e)) (hh : m.halt = false) {op : Int} (h0 : g (ix m.pc) = op) (h1 : 0 ≤ op) (h2 : op < 16) (hs : sizeT op ≠ 0) (ha : Agr (usesT op) m s z x p c) : Tw (setsT op) m (setF m s z x p c) g := by
  have h : op = 0 ∨ op = 1 ∨ op = 2 ∨ op = 3 ∨ op = 4 ∨ op = 5 ∨ op = 6 ∨ op = 7 ∨ op = 8 ∨ op = 9 ∨ op = 10 ∨ op = 11 ∨ op = 12 ∨ op = 13 ∨ op = 14 ∨ op = 15 := by omega
  obtain ⟨a1, a2, a8, a16, a20, a31⟩ := ha
  rcases h with rfl | rfl | rfl | rfl | rfl | rfl | rfl | rfl | rfl | rfl | rfl | rfl | rfl | rfl | rfl | rfl
  · exact t00 hm hg hh h0
  · exact t01 hm hg hh h0
  · exact t02 hm hg hh h0
  · exact t03 hm hg hh h0
  · exact t04 hm hg hh h0
  · exact t05 hm hg hh h0
  · exact t06 hm hg hh h0
  · exact t07 hm hg hh h0
  · exact absurd rfl hs
  · exact t09 hm hg hh h0
  · exact t0a hm hg hh h0
  · exact t0b hm hg hh h0
  · exact t0c hm hg hh h0
  · exact t0d hm hg hh h0
  · exact t0e hm hg hh h0
  · exact t0f hm hg hh h0
theorem tw1 {m : Mc} {g : Nat → Int} {s z x p c : Bool} (hm : m.Ok) (hg : ∀ e, B8 (g e)) (hh : m.halt = false) {op : Int} (h0 : g (ix m.pc) = op) (h1 : 16 ≤ op) (h2 : op < 32) (hs : sizeT op ≠ 0) (ha : Agr (usesT op) m s z x p c) : Tw (setsT op) m (setF m s z x p c) g := by
  have h : op = 16 ∨ op = 17 ∨ op = 18 ∨ op = 19 ∨ op = 20 ∨ op = 21 ∨ op = 22 ∨ op = 23 ∨ op = 24 ∨ op = 25 ∨ op = 26 ∨ op = 27 ∨ op = 28 ∨ op = 29 ∨ op = 30 ∨ op = 31 := by omega
  obtain ⟨a1, a2, a8, a16, a20, a31⟩ := ha
  rcases h with rfl | rfl | rfl | rfl | rfl | rfl | rfl | rfl | rfl | rfl | rfl | rfl | rfl | rfl | rfl | rfl
  · exact absurd rfl hs
  · exact t11 hm hg hh h0
  · exact t12 hm hg hh h0
  · exact t13 hm hg hh h0
  · exact t14 hm hg hh h0
  · exact t15 hm hg hh h0
  · exact t16 hm hg hh h0
  · exact t17 hm hg hh h0 (a16 rfl)
  · exact absurd rfl hs
  · exact t19 hm hg hh h0
  · exact t1a hm hg hh h0
  · exact t1b hm hg hh h0
  · exact t1c hm hg hh h0
  · exact t1d hm hg hh h0
  · exact t1e hm hg hh h0
  · exact t1f hm hg hh h0 (a16 rfl)
theorem tw2 {m : Mc} {g : Nat → Int} {s z x p c : Bool} (hm : m.Ok) (hg : ∀ e, B8 (g e)) (hh : m.halt = false) {op : Int} (h0 : g (ix m.pc) = op) (h1 : 32 ≤ op) (h2 : op < 48) (hs : sizeT op ≠ 0) (ha : Agr (usesT op) m s z x p c) : Tw (setsT op) m (setF m s z x p c) g := by
  have h : op = 32 ∨ op = 33 ∨ op = 34 ∨ op = 35 ∨ op = 36 ∨ op = 37 ∨ op = 38 ∨ op = 39 ∨ op = 40 ∨ op = 41 ∨ op = 42 ∨ op = 43 ∨ op = 44 ∨ op = 45 ∨ op = 46 ∨ op = 47 := by omega
  obtain ⟨a1, a2, a8, a16, a20, a31⟩ := ha
  rcases h with rfl | rfl | rfl | rfl | rfl | rfl | rfl | rfl | rfl | rfl | rfl | rfl | rfl | rfl | rfl | rfl
  · exact absurd rfl hs
  · exact t21 hm hg hh h0
  · exact t22 hm hg hh h0
  · exact t23 hm hg hh h0
  · exact t24 hm hg hh h0
  · exact t25 hm hg hh h0
  · exact t26 hm hg hh h0
  · exact t27 hm hg hh h0 (a20 rfl).1 (a20 rfl).2
  · exact absurd rfl hs
  · exact t29 hm hg hh h0
  · exact t2a hm hg hh h0
  · exact t2b hm hg hh h0
  · exact t2c hm hg hh h0
  · exact t2d hm hg hh h0
  · exact t2e hm hg hh h0
  · exact t2f hm hg hh h0
theorem tw3 {m : Mc} {g : Nat → Int} {s z x p c : Bool} (hm : m.Ok) (hg : ∀ e, B8 (g e)) (hh : m.halt = false) {op : Int} (h0 : g (ix m.pc) = op) (h1 : 48 ≤ op) (h2 : op < 64) (hs : sizeT op ≠ 0) (ha : Agr (usesT op) m s z x p c) : Tw (setsT op) m (setF m s z x p c) g := by
  have h : op = 48 ∨ op = 49 ∨ op = 50 ∨ op = 51 ∨ op = 52 ∨ op = 53 ∨ op = 54 ∨ op = 55 ∨ op = 56 ∨ op = 57 ∨ op = 58 ∨ op = 59 ∨ op = 60 ∨ op = 61 ∨ op = 62 ∨ op = 63 := by omega
  obtain ⟨a1, a2, a8, a16, a20, a31⟩ := ha
  rcases h with rfl | rfl | rfl | rfl | rfl | rfl | rfl | rfl | rfl | rfl | rfl | rfl | rfl | rfl | rfl | rfl
  · exact absurd rfl hs
  · exact t31 hm hg hh h0
  · exact t32 hm hg hh h0
  · exact t33 hm hg hh h0
  · exact t34 hm hg hh h0
  · exact t35 hm hg hh h0
  · exact t36 hm hg hh h0
  · exact t37 hm hg hh h0
  · exact absurd rfl hs
  · exact t39 hm hg hh h0
  · exact t3a hm hg hh h0
  · exact t3b hm hg hh h0
  · exact t3c hm hg hh h0
  · exact t3d hm hg hh h0
  · exact t3e hm hg hh h0
  · exact t3f hm hg hh h0 (a16 rfl)
theorem tw4 {m : Mc} {g : Nat → Int} {s z x p c : Bool} (hm : m.Ok) (hg : ∀ e, B8 (g e)) (hh : m.halt = false) {op : Int} (h0 : g (ix m.pc) = op) (h1 : 64 ≤ op) (h2 : op < 80) (hs : sizeT op ≠ 0) (ha : Agr (usesT op) m s z x p c) : Tw (setsT op) m (setF m s z x p c) g := by
  have h : op = 64 ∨ op = 65 ∨ op = 66 ∨ op = 67 ∨ op = 68 ∨ op = 69 ∨ op = 70 ∨ op = 71 ∨ op = 72 ∨ op = 73 ∨ op = 74 ∨ op = 75 ∨ op = 76 ∨ op = 77 ∨ op = 78 ∨ op = 79 := by omega
  obtain ⟨a1, a2, a8, a16, a20, a31⟩ := ha
  rcases h with rfl | rfl | rfl | rfl | rfl | rfl | rfl | rfl | rfl | rfl | rfl | rfl | rfl | rfl | rfl | rfl
  · exact t40 hm hg hh h0
  · exact t41 hm hg hh h0
  · exact t42 hm hg hh h0
  · exact t43 hm hg hh h0
  · exact t44 hm hg hh h0
  · exact t45 hm hg hh h0
  · exact t46 hm hg hh h0
  · exact t47 hm hg hh h0
  · exact t48 hm hg hh h0
  · exact t49 hm hg hh h0
  · exact t4a hm hg hh h0
  · exact t4b hm hg hh h0
  · exact t4c hm hg hh h0
  · exact t4d hm hg hh h0
  · exact t4e hm hg hh h0
  · exact t4f hm hg hh h0
theorem tw5 {m : Mc} {g : Nat → Int} {s z x p c : Bool} (hm : m.Ok) (hg : ∀ e, B8 (g e)) (hh : m.halt = false) {op : Int} (h0 : g (ix m.pc) = op) (h1 : 80 ≤ op) (h2 : op < 96) (hs : sizeT op ≠ 0) (ha : Agr (usesT op) m s z x p c) : Tw (setsT op) m (setF m s z x p c) g := by
  have h : op = 80 ∨ op = 81 ∨ op = 82 ∨ op = 83 ∨ op = 84 ∨ op = 85 ∨ op = 86 ∨ op = 87 ∨ op = 88 ∨ op = 89 ∨ op = 90 ∨ op = 91 ∨ op = 92 ∨ op = 93 ∨ op = 94 ∨ op = 95 := by omega
  obtain ⟨a1, a2, a8, a16, a20, a31⟩ := ha
  rcases h with rfl | rfl | rfl | rfl | rfl | rfl | rfl | rfl | rfl | rfl | rfl | rfl | rfl | rfl | rfl | rfl
  · exact t50 hm hg hh h0
  · exact t51 hm hg hh h0
  · exact t52 hm hg hh h0
  · exact t53 hm hg hh h0
  · exact t54 hm hg hh h0
  · exact t55 hm hg hh h0
  · exact t56 hm hg hh h0
  · exact t57 hm hg hh h0
  · exact t58 hm hg hh h0
  · exact t59 hm hg hh h0
  · exact t5a hm hg hh h0
  · exact t5b hm hg hh h0
  · exact t5c hm hg hh h0
  · exact t5d hm hg hh h0
  · exact t5e hm hg hh h0
  · exact t5f hm hg hh h0
theorem tw6 {m : Mc} {g : Nat → Int} {s z x p c : Bool} (hm : m.Ok) (hg : ∀ e, B8 (g e)) (hh : m.halt = false) {op : Int} (h0 : g (ix m.pc) = op) (h1 : 96 ≤ op) (h2 : op < 112) (hs : sizeT op ≠ 0) (ha : Agr (usesT op) m s z x p c) : Tw (setsT op) m (setF m s z x p c) g := by
  have h : op = 96 ∨ op = 97 ∨ op = 98 ∨ op = 99 ∨ op = 100 ∨ op = 101 ∨ op = 102 ∨ op = 103 ∨ op = 104 ∨ op = 105 ∨ op = 106 ∨ op = 107 ∨ op = 108 ∨ op = 109 ∨ op = 110 ∨ op = 111 := by omega
  obtain ⟨a1, a2, a8, a16, a20, a31⟩ := ha
  rcases h with rfl | rfl | rfl | rfl | rfl | rfl | rfl | rfl | rfl | rfl | rfl | rfl | rfl | rfl | rfl | rfl
  · exact t60 hm hg hh h0
  · exact t61 hm hg hh h0
  · exact t62 hm hg hh h0
  · exact t63 hm hg hh h0
  · exact t64 hm hg hh h0
  · exact t65 hm hg hh h0
  · exact t66 hm hg hh h0
  · exact t67 hm hg hh h0
  · exact t68 hm hg hh h0
  · exact t69 hm hg hh h0
  · exact t6a hm hg hh h0
  · exact t6b hm hg hh h0
  · exact t6c hm hg hh h0
  · exact t6d hm hg hh h0
  · exact t6e hm hg hh h0
  · exact t6f hm hg hh h0
theorem tw7 {m : Mc} {g : Nat → Int} {s z x p c : Bool} (hm : m.Ok) (hg : ∀ e, B8 (g e)) (hh : m.halt = false) {op : Int} (h0 : g (ix m.pc) = op) (h1 : 112 ≤ op) (h2 : op < 128) (hs : sizeT op ≠ 0) (ha : Agr (usesT op) m s z x p c) : Tw (setsT op) m (setF m s z x p c) g := by
  have h : op = 112 ∨ op = 113 ∨ op = 114 ∨ op = 115 ∨ op = 116 ∨ op = 117 ∨ op = 118 ∨ op = 119 ∨ op = 120 ∨ op = 121 ∨ op = 122 ∨ op = 123 ∨ op = 124 ∨ op = 125 ∨ op = 126 ∨ op = 127 := by omega
  obtain ⟨a1, a2, a8, a16, a20, a31⟩ := ha
  rcases h with rfl | rfl | rfl | rfl | rfl | rfl | rfl | rfl | rfl | rfl | rfl | rfl | rfl | rfl | rfl | rfl
  · exact t70 hm hg hh h0
  · exact t71 hm hg hh h0
  · exact t72 hm hg hh h0
  · exact t73 hm hg hh h0
  · exact t74 hm hg hh h0
  · exact t75 hm hg hh h0
  · exact t76 hm hg hh h0
  · exact t77 hm hg hh h0
  · exact t78 hm hg hh h0
  · exact t79 hm hg hh h0
  · exact t7a hm hg hh h0
  · exact t7b hm hg hh h0
  · exact t7c hm hg hh h0
  · exact t7d hm hg hh h0
  · exact t7e hm hg hh h0
  · exact t7f hm hg hh h0
theorem tw8 {m : Mc} {g : Nat → Int} {s z x p c : Bool} (hm : m.Ok) (hg : ∀ e, B8 (g e)) (hh : m.halt = false) {op : Int} (h0 : g (ix m.pc) = op) (h1 : 128 ≤ op) (h2 : op < 144) (hs : sizeT op ≠ 0) (ha : Agr (usesT op) m s z x p c) : Tw (setsT op) m (setF m s z x p c) g := by
  have h : op = 128 ∨ op = 129 ∨ op = 130 ∨ op = 131 ∨ op = 132 ∨ op = 133 ∨ op = 134 ∨ op = 135 ∨ op = 136 ∨ op = 137 ∨ op = 138 ∨ op = 139 ∨ op = 140 ∨ op = 141 ∨ op = 142 ∨ op = 143 := by omega
  obtain ⟨a1, a2, a8, a16, a20, a31⟩ := ha
  rcases h with rfl | rfl | rfl | rfl | rfl | rfl | rfl | rfl | rfl | rfl | rfl | rfl | rfl | rfl | rfl | rfl
  · exact t80 hm hg hh h0
  · exact t81 hm hg hh h0
  · exact t82 hm hg hh h0
  · exact t83 hm hg hh h0
  · exact t84 hm hg hh h0
  · exact t85 hm hg hh h0
  · exact t86 hm hg hh h0
  · exact t87 hm hg hh h0
  · exact t88 hm hg hh h0 (a16 rfl)
  · exact t89 hm hg hh h0 (a16 rfl)
  · exact t8a hm hg hh h0 (a16 rfl)
  · exact t8b hm hg hh h0 (a16 rfl)
  · exact t8c hm hg hh h0 (a16 rfl)
  · exact t8d hm hg hh h0 (a16 rfl)
  · exact t8e hm hg hh h0 (a16 rfl)
  · exact t8f hm hg hh h0 (a16 rfl)
theorem tw9 {m : Mc} {g : Nat → Int} {s z x p c : Bool} (hm : m.Ok) (hg : ∀ e, B8 (g e)) (hh : m.halt = false) {op : Int} (h0 : g (ix m.pc) = op) (h1 : 144 ≤ op) (h2 : op < 160) (hs : sizeT op ≠ 0) (ha : Agr (usesT op) m s z x p c) : Tw (setsT op) m (setF m s z x p c) g := by
  have h : op = 144 ∨ op = 145 ∨ op = 146 ∨ op = 147 ∨ op = 148 ∨ op = 149 ∨ op = 150 ∨ op = 151 ∨ op = 152 ∨ op = 153 ∨ op = 154 ∨ op = 155 ∨ op = 156 ∨ op = 157 ∨ op = 158 ∨ op = 159 := by omega
  obtain ⟨a1, a2, a8, a16, a20, a31⟩ := ha
  rcases h with rfl | rfl | rfl | rfl | rfl | rfl | rfl | rfl | rfl | rfl | rfl | rfl | rfl | rfl | rfl | rfl
  · exact t90 hm hg hh h0
  · exact t91 hm hg hh h0
  · exact t92 hm hg hh h0
  · exact t93 hm hg hh h0
  · exact t94 hm hg hh h0
  · exact t95 hm hg hh h0
  · exact t96 hm hg hh h0
  · exact t97 hm hg hh h0
  · exact t98 hm hg hh h0 (a16 rfl)
  · exact t99 hm hg hh h0 (a16 rfl)
  · exact t9a hm hg hh h0 (a16 rfl)
  · exact t9b hm hg hh h0 (a16 rfl)
  · exact t9c hm hg hh h0 (a16 rfl)
  · exact t9d hm hg hh h0 (a16 rfl)
  · exact t9e hm hg hh h0 (a16 rfl)
  · exact t9f hm hg hh h0 (a16 rfl)
theorem tw10 {m : Mc} {g : Nat → Int} {s z x p c : Bool} (hm : m.Ok) (hg : ∀ e, B8 (g e)) (hh : m.halt = false) {op : Int} (h0 : g (ix m.pc) = op) (h1 : 160 ≤ op) (h2 : op < 176) (hs : sizeT op ≠ 0) (ha : Agr (usesT op) m s z x p c) : Tw (setsT op) m (setF m s z x p c) g := by
  have h : op = 160 ∨ op = 161 ∨ op = 162 ∨ op = 163 ∨ op = 164 ∨ op = 165 ∨ op = 166 ∨ op = 167 ∨ op = 168 ∨ op = 169 ∨ op = 170 ∨ op = 171 ∨ op = 172 ∨ op = 173 ∨ op = 174 ∨ op = 175 := by omega
  obtain ⟨a1, a2, a8, a16, a20, a31⟩ := ha
  rcases h with rfl | rfl | rfl | rfl | rfl | rfl | rfl | rfl | rfl | rfl | rfl | rfl | rfl | rfl | rfl | rfl
  · exact ta0 hm hg hh h0
  · exact ta1 hm hg hh h0
  · exact ta2 hm hg hh h0
  · exact ta3 hm hg hh h0
  · exact ta4 hm hg hh h0
  · exact ta5 hm hg hh h0
  · exact ta6 hm hg hh h0
  · exact ta7 hm hg hh h0
  · exact ta8 hm hg hh h0
  · exact ta9 hm hg hh h0
  · exact taa hm hg hh h0
  · exact tab hm hg hh h0
  · exact tac hm hg hh h0
  · exact tad hm hg hh h0
  · exact tae hm hg hh h0
  · exact taf hm hg hh h0
theorem tw11 {m : Mc} {g : Nat → Int} {s z x p c : Bool} (hm : m.Ok) (hg : ∀ e, B8 (g e)) (hh : m.halt = false) {op : Int} (h0 : g (ix m.pc) = op) (h1 : 176 ≤ op) (h2 : op < 192) (hs : sizeT op ≠ 0) (ha : Agr (usesT op) m s z x p c) : Tw (setsT op) m (setF m s z x p c) g := by
  have h : op = 176 ∨ op = 177 ∨ op = 178 ∨ op = 179 ∨ op = 180 ∨ op = 181 ∨ op = 182 ∨ op = 183 ∨ op = 184 ∨ op = 185 ∨ op = 186 ∨ op = 187 ∨ op = 188 ∨ op = 189 ∨ op = 190 ∨ op = 191 := by omega
  obtain ⟨a1, a2, a8, a16, a20, a31⟩ := ha
  rcases h with rfl | rfl | rfl | rfl | rfl | rfl | rfl | rfl | rfl | rfl | rfl | rfl | rfl | rfl | rfl | rfl
  · exact tb0 hm hg hh h0
  · exact tb1 hm hg hh h0
  · exact tb2 hm hg hh h0
  · exact tb3 hm hg hh h0
  · exact tb4 hm hg hh h0
  · exact tb5 hm hg hh h0
  · exact tb6 hm hg hh h0
  · exact tb7 hm hg hh h0
  · exact tb8 hm hg hh h0
  · exact tb9 hm hg hh h0
  · exact tba hm hg hh h0
  · exact tbb hm hg hh h0
  · exact tbc hm hg hh h0
  · exact tbd hm hg hh h0
  · exact tbe hm hg hh h0
  · exact tbf hm hg hh h0
theorem tw12 {m : Mc} {g : Nat → Int} {s z x p c : Bool} (hm : m.Ok) (hg : ∀ e, B8 (g e)) (hh : m.halt = false) {op : Int} (h0 : g (ix m.pc) = op) (h1 : 192 ≤ op) (h2 : op < 208) (hs : sizeT op ≠ 0) (ha : Agr (usesT op) m s z x p c) : Tw (setsT op) m (setF m s z x p c) g := by
  have h : op = 192 ∨ op = 193 ∨ op = 194 ∨ op = 195 ∨ op = 196 ∨ op = 197 ∨ op = 198 ∨ op = 199 ∨ op = 200 ∨ op = 201 ∨ op = 202 ∨ op = 203 ∨ op = 204 ∨ op = 205 ∨ op = 206 ∨ op = 207 := by omega
  obtain ⟨a1, a2, a8, a16, a20, a31⟩ := ha
  rcases h with rfl | rfl | rfl | rfl | rfl | rfl | rfl | rfl | rfl | rfl | rfl | rfl | rfl | rfl | rfl | rfl
  · exact tc0 hm hg hh h0 (a2 rfl)
  · exact tc1 hm hg hh h0
  · exact tc2 hm hg hh h0 (a2 rfl)
  · exact tc3 hm hg hh h0
  · exact tc4 hm hg hh h0 (a2 rfl)
  · exact tc5 hm hg hh h0
  · exact tc6 hm hg hh h0
  · exact tc7 hm hg hh h0
  · exact tc8 hm hg hh h0 (a2 rfl)
  · exact tc9 hm hg hh h0
  · exact tca hm hg hh h0 (a2 rfl)
  · exact absurd rfl hs
  · exact tcc hm hg hh h0 (a2 rfl)
  · exact tcd hm hg hh h0
  · exact tce hm hg hh h0 (a16 rfl)
  · exact tcf hm hg hh h0
theorem tw13 {m : Mc} {g : Nat → Int} {s z x p c : Bool} (hm : m.Ok) (hg : ∀ e, B8 (g e)) (hh : m.halt = false) {op : Int} (h0 : g (ix m.pc) = op) (h1 : 208 ≤ op) (h2 : op < 224) (hs : sizeT op ≠ 0) (hi : op ≠ 219) (ho : op ≠ 211) (ha : Agr (usesT op) m s z x p c) : Tw (setsT op) m (setF m s z x p c) g := by
  have h : op = 208 ∨ op = 209 ∨ op = 210 ∨ op = 211 ∨ op = 212 ∨ op = 213 ∨ op = 214 ∨ op = 215 ∨ op = 216 ∨ op = 217 ∨ op = 218 ∨ op = 219 ∨ op = 220 ∨ op = 221 ∨ op = 222 ∨ op = 223 := by omega
  obtain ⟨a1, a2, a8, a16, a20, a31⟩ := ha
  rcases h with rfl | rfl | rfl | rfl | rfl | rfl | rfl | rfl | rfl | rfl | rfl | rfl | rfl | rfl | rfl | rfl
  · exact td0 hm hg hh h0 (a16 rfl)
  · exact td1 hm hg hh h0
  · exact td2 hm hg hh h0 (a16 rfl)
  · exact absurd rfl ho
  · exact td4 hm hg hh h0 (a16 rfl)
  · exact td5 hm hg hh h0
  · exact td6 hm hg hh h0
  · exact td7 hm hg hh h0
  · exact td8 hm hg hh h0 (a16 rfl)
  · exact absurd rfl hs
  · exact tda hm hg hh h0 (a16 rfl)
  · exact absurd rfl hi
  · exact tdc hm hg hh h0 (a16 rfl)
  · exact absurd rfl hs
  · exact tde hm hg hh h0 (a16 rfl)
  · exact tdf hm hg hh h0
theorem tw14 {m : Mc} {g : Nat → Int} {s z x p c : Bool} (hm : m.Ok) (hg : ∀ e, B8 (g e)) (hh : m.halt = false) {op : Int} (h0 : g (ix m.pc) = op) (h1 : 224 ≤ op) (h2 : op < 240) (hs : sizeT op ≠ 0) (ha : Agr (usesT op) m s z x p c) : Tw (setsT op) m (setF m s z x p c) g := by
  have h : op = 224 ∨ op = 225 ∨ op = 226 ∨ op = 227 ∨ op = 228 ∨ op = 229 ∨ op = 230 ∨ op = 231 ∨ op = 232 ∨ op = 233 ∨ op = 234 ∨ op = 235 ∨ op = 236 ∨ op = 237 ∨ op = 238 ∨ op = 239 := by omega
  obtain ⟨a1, a2, a8, a16, a20, a31⟩ := ha
  rcases h with rfl | rfl | rfl | rfl | rfl | rfl | rfl | rfl | rfl | rfl | rfl | rfl | rfl | rfl | rfl | rfl
  · exact te0 hm hg hh h0 (a8 rfl)
  · exact te1 hm hg hh h0
  · exact te2 hm hg hh h0 (a8 rfl)
  · exact te3 hm hg hh h0
  · exact te4 hm hg hh h0 (a8 rfl)
  · exact te5 hm hg hh h0
  · exact te6 hm hg hh h0
  · exact te7 hm hg hh h0
  · exact te8 hm hg hh h0 (a8 rfl)
  · exact te9 hm hg hh h0
  · exact tea hm hg hh h0 (a8 rfl)
  · exact teb hm hg hh h0
  · exact tec hm hg hh h0 (a8 rfl)
  · exact absurd rfl hs
  · exact tee hm hg hh h0
  · exact tef hm hg hh h0
theorem tw15 {m : Mc} {g : Nat → Int} {s z x p c : Bool} (hm : m.Ok) (hg : ∀ e, B8 (g e)) (hh : m.halt = false) {op : Int} (h0 : g (ix m.pc) = op) (h1 : 240 ≤ op) (h2 : op < 256) (hs : sizeT op ≠ 0) (ha : Agr (usesT op) m s z x p c) : Tw (setsT op) m (setF m s z x p c) g := by
  have h : op = 240 ∨ op = 241 ∨ op = 242 ∨ op = 243 ∨ op = 244 ∨ op = 245 ∨ op = 246 ∨ op = 247 ∨ op = 248 ∨ op = 249 ∨ op = 250 ∨ op = 251 ∨ op = 252 ∨ op = 253 ∨ op = 254 ∨ op = 255 := by omega
  obtain ⟨a1, a2, a8, a16, a20, a31⟩ := ha
  rcases h with rfl | rfl | rfl | rfl | rfl | rfl | rfl | rfl | rfl | rfl | rfl | rfl | rfl | rfl | rfl | rfl
  · exact tf0 hm hg hh h0 (a1 rfl)
  · exact tf1 hm hg hh h0
  · exact tf2 hm hg hh h0 (a1 rfl)
  · exact tf3 hm hg hh h0
  · exact tf4 hm hg hh h0 (a1 rfl)
  · exact tf5 hm hg hh h0 (a31 rfl).1 (a31 rfl).2.1 (a31 rfl).2.2.1 (a31 rfl).2.2.2.1 (a31 rfl).2.2.2.2
  · exact tf6 hm hg hh h0
  · exact tf7 hm hg hh h0
  · exact tf8 hm hg hh h0 (a1 rfl)
  · exact tf9 hm hg hh h0
  · exact tfa hm hg hh h0 (a1 rfl)
  · exact tfb hm hg hh h0
  · exact tfc hm hg hh h0 (a1 rfl)
  · exact absurd rfl hs
  · exact tfe hm hg hh h0
  · exact tff hm hg hh h0
theorem tw_all {m : Mc} {g : Nat → Int} {s z x p c : Bool} (hm : m.Ok) (hg : ∀ e, B8 (g e)) (hh : m.halt = false) {op : Int} (h0 : g (ix m.pc) = op) (h1 : 0 ≤ op) (h2 : op ≤ 255) (hs : sizeT op ≠ 0) (hi : op ≠ 219) (ho : op ≠ 211) (ha : Agr (usesT op) m s z x p c) : Tw (setsT op) m (setF m s z x p c) g := by
  rcases Int.lt_or_le op 16 with k0 | k0
  · exact tw0 hm hg hh h0 (by omega) k0 hs ha
  rcases Int.lt_or_le op 32 with k1 | k1
  · exact tw1 hm hg hh h0 (by omega) k1 hs ha
  rcases Int.lt_or_le op 48 with k2 | k2
  · exact tw2 hm hg hh h0 (by omega) k2 hs ha
  rcases Int.lt_or_le op 64 with k3 | k3
  · exact tw3 hm hg hh h0 (by omega) k3 hs ha
  rcases Int.lt_or_le op 80 with k4 | k4
  · exact tw4 hm hg hh h0 (by omega) k4 hs ha
  rcases Int.lt_or_le op 96 with k5 | k5
  · exact tw5 hm hg hh h0 (by omega) k5 hs ha
  rcases Int.lt_or_le op 112 with k6 | k6
  · exact tw6 hm hg hh h0 (by omega) k6 hs ha
  rcases Int.lt_or_le op 128 with k7 | k7
  · exact tw7 hm hg hh h0 (by omega) k7 hs ha
  rcases Int.lt_or_le op 144 with k8 | k8
  · exact tw8 hm hg hh h0 (by omega) k8 hs ha
  rcases Int.lt_or_le op 160 with k9 | k9
  · exact tw9 hm hg hh h0 (by omega) k9 hs ha
  rcases Int.lt_or_le op 176 with k10 | k10
  · exact tw10 hm hg hh h0 (by omega) k10 hs ha
  rcases Int.lt_or_le op 192 with k11 | k11
  · exact tw11 hm hg hh h0 (by omega) k11 hs ha
  rcases Int.lt_or_le op 208 with k12 | k12
  · exact tw12 hm hg hh h0 (by omega) k12 hs ha
  rcases Int.lt_or_le op 224 with k13 | k13
  · exact tw13 hm hg hh h0 (by omega) k13 hs hi ho ha
  rcases Int.lt_or_le op 240 with k14 | k14
  · exact tw14 hm hg hh h0 (by omega) k14 hs ha
  exact tw15 hm hg hh h0 k14 (by omega) hs ha
end Go.Proofs.Ytdjmpilegommlaa
end
