/- Part 10 of the texts that the law needs, laid together. By program (pack.py). -/
import Derived.Test.YtpggoincnebfnaaPmi
import Derived.KernelRfl
set_option linter.unusedVariables false
set_option linter.unusedSimpArgs false
noncomputable section
namespace Go.Proofs.Ytpggoincnebfnaa
open Go Go.Ly Go.RowKit
section
variable (s : Sv) (w : Int)
def a101 : Mc := Emov10.mf (mOf (pc0 s)) (g8 1 0 w)
def a102 : Mc := Emvi1.mf (a101 s w) (g8 1 0 w)
def a103 : Mc := Elxi1.mf (a102 s w) (g8 1 0 w)
def a104 : Mc := Einx1.mf (a103 s w) (g8 1 0 w)
def a105 : Mc := Exchg.mf (a104 s w) (g8 1 0 w)
set_option maxRecDepth 100000 in
theorem x8_10 : (Ly.run (cx8 [Emov10, Emvi1, Elxi1, Einx1, Exchg]) 3000 [(4, true), (10, false), (3, true), (2, true), (8, false), (2, true), (3, true), (14, true), (4, true), (36, true), (5, true), (10, true), (4, true), (15, true), (15, true), (10, true)] (st8 (pc0 s) 1 0 w (g8 1 0 w) (l8 1 0 w))).out? = some (t8 (mOf (pc0 s)) (a101 s w) (a102 s w) (a103 s w) (a104 s w) (a105 s w) { mOf (pc0 s) with r1 := s.r0 } { mOf (pc0 s) with r1 := w8 w } (g8 1 0 w) w 1 (Emvi1.grd (a101 s w) (g8 1 0 w)) (Elxi1.grd (a102 s w) (g8 1 0 w)) (Einx1.grd (a103 s w) (g8 1 0 w)) (Exchg.grd (a104 s w) (g8 1 0 w)), .bool true) := by kernel_rfl
theorem y8_10 (hs : s.Ok) (hw : B16 w) (u : List (Bool × Bool)) (hu : u = t8 (mOf (pc0 s)) (a101 s w) (a102 s w) (a103 s w) (a104 s w) (a105 s w) { mOf (pc0 s) with r1 := s.r0 } { mOf (pc0 s) with r1 := w8 w } (g8 1 0 w) w 1 (Emvi1.grd (a101 s w) (g8 1 0 w)) (Elxi1.grd (a102 s w) (g8 1 0 w)) (Einx1.grd (a103 s w) (g8 1 0 w)) (Exchg.grd (a104 s w) (g8 1 0 w))) : trusted u := by
  obtain ⟨⟨q0, q1, q2, q3, q4, q5, q6, q7⟩, qs, qp⟩ := hs
  subst hu
  have e0 := hilo hw
  have e1 := hilo1 (w + 1)
  have n1 := b8hi (w + 1)
  have m1 : a101 s w = ⟨s.r0, s.r0, s.r2, s.r3, s.r4, s.r5, s.r7, s.fs, s.fz, s.fx, s.fp, s.fc, s.sp, 1, s.ie, false⟩ := by kernel_rfl
  have m2 : a102 s w = ⟨s.r0, w8 w, s.r2, s.r3, s.r4, s.r5, s.r7, s.fs, s.fz, s.fx, s.fp, s.fc, s.sp, 3, s.ie, false⟩ := by kernel_rfl
  have m3 : a103 s w = ⟨s.r0, w8 w, w8 (w.fdiv 256), w8 w, s.r4, s.r5, s.r7, s.fs, s.fz, s.fx, s.fp, s.fc, s.sp, 6, s.ie, false⟩ := by kernel_rfl
  have m4 : a104 s w = ⟨s.r0, w8 w, (256 * w8 (w.fdiv 256) + w8 w + 1) % 65536 / 256, (256 * w8 (w.fdiv 256) + w8 w + 1) % 256, s.r4, s.r5, s.r7, s.fs, s.fz, s.fx, s.fp, s.fc, s.sp, 7, s.ie, false⟩ := by kernel_rfl
  have m5 : a105 s w = ⟨s.r0, w8 w, s.r4, s.r5, (256 * w8 (w.fdiv 256) + w8 w + 1) % 65536 / 256, (256 * w8 (w.fdiv 256) + w8 w + 1) % 256, s.r7, s.fs, s.fz, s.fx, s.fp, s.fc, s.sp, 8, s.ie, false⟩ := by kernel_rfl
  have g2 : Emvi1.grd (a101 s w) (g8 1 0 w) = inb (w8 w) := by kernel_rfl
  have g3 : Elxi1.grd (a102 s w) (g8 1 0 w) = (inb (w8 w) && inb (w8 (w.fdiv 256))) := by kernel_rfl
  have g4 : Einx1.grd (a103 s w) (g8 1 0 w) = (inb (w8 (w.fdiv 256)) && inb (w8 w)) := by kernel_rfl
  rw [g2, g3, g4, m1, m2, m3, m4, m5, e0]
  simp [t8, isMem_ok, neM, prM, eqF, Exchg, mOf, pc0, *]
theorem z8_10 (hs : s.Ok) (hw : B16 w) : MWp Try.prog (st8 (pc0 s) 1 0 w (g8 1 0 w) (l8 1 0 w)) (fun u _ => u = .bool true) :=
  MWp.out (cx8_ok (by simp [Emov10_ok, Emvi1_ok, Elxi1_ok, Einx1_ok, Exchg_ok])) 3000 _ (x8_10 s w) (y8_10 s w hs hw _ rfl) (fun _ => rfl)
end
section
variable (s : Sv) (w : Int)
def a111 : Mc := Emov11.mf (mOf (pc0 s)) (g8 1 1 w)
def a112 : Mc := Emvi1.mf (a111 s w) (g8 1 1 w)
def a113 : Mc := Elxi1.mf (a112 s w) (g8 1 1 w)
def a114 : Mc := Einx1.mf (a113 s w) (g8 1 1 w)
def a115 : Mc := Exchg.mf (a114 s w) (g8 1 1 w)
set_option maxRecDepth 100000 in
theorem x8_11 : (Ly.run (cx8 [Emov11, Emvi1, Elxi1, Einx1, Exchg]) 3000 [(4, true), (10, false), (3, true), (2, true), (8, false), (2, true), (3, true), (14, true), (4, true), (36, true), (5, true), (10, true), (4, true), (15, true), (15, true), (10, true)] (st8 (pc0 s) 1 1 w (g8 1 1 w) (l8 1 1 w))).out? = some (t8 (mOf (pc0 s)) (a111 s w) (a112 s w) (a113 s w) (a114 s w) (a115 s w) { mOf (pc0 s) with r1 := s.r1 } { mOf (pc0 s) with r1 := w8 w } (g8 1 1 w) w 1 (Emvi1.grd (a111 s w) (g8 1 1 w)) (Elxi1.grd (a112 s w) (g8 1 1 w)) (Einx1.grd (a113 s w) (g8 1 1 w)) (Exchg.grd (a114 s w) (g8 1 1 w)), .bool true) := by kernel_rfl
theorem y8_11 (hs : s.Ok) (hw : B16 w) (u : List (Bool × Bool)) (hu : u = t8 (mOf (pc0 s)) (a111 s w) (a112 s w) (a113 s w) (a114 s w) (a115 s w) { mOf (pc0 s) with r1 := s.r1 } { mOf (pc0 s) with r1 := w8 w } (g8 1 1 w) w 1 (Emvi1.grd (a111 s w) (g8 1 1 w)) (Elxi1.grd (a112 s w) (g8 1 1 w)) (Einx1.grd (a113 s w) (g8 1 1 w)) (Exchg.grd (a114 s w) (g8 1 1 w))) : trusted u := by
  obtain ⟨⟨q0, q1, q2, q3, q4, q5, q6, q7⟩, qs, qp⟩ := hs
  subst hu
  have e0 := hilo hw
  have e1 := hilo1 (w + 1)
  have n1 := b8hi (w + 1)
  have m1 : a111 s w = ⟨s.r0, s.r1, s.r2, s.r3, s.r4, s.r5, s.r7, s.fs, s.fz, s.fx, s.fp, s.fc, s.sp, 1, s.ie, false⟩ := by kernel_rfl
  have m2 : a112 s w = ⟨s.r0, w8 w, s.r2, s.r3, s.r4, s.r5, s.r7, s.fs, s.fz, s.fx, s.fp, s.fc, s.sp, 3, s.ie, false⟩ := by kernel_rfl
  have m3 : a113 s w = ⟨s.r0, w8 w, w8 (w.fdiv 256), w8 w, s.r4, s.r5, s.r7, s.fs, s.fz, s.fx, s.fp, s.fc, s.sp, 6, s.ie, false⟩ := by kernel_rfl
  have m4 : a114 s w = ⟨s.r0, w8 w, (256 * w8 (w.fdiv 256) + w8 w + 1) % 65536 / 256, (256 * w8 (w.fdiv 256) + w8 w + 1) % 256, s.r4, s.r5, s.r7, s.fs, s.fz, s.fx, s.fp, s.fc, s.sp, 7, s.ie, false⟩ := by kernel_rfl
  have m5 : a115 s w = ⟨s.r0, w8 w, s.r4, s.r5, (256 * w8 (w.fdiv 256) + w8 w + 1) % 65536 / 256, (256 * w8 (w.fdiv 256) + w8 w + 1) % 256, s.r7, s.fs, s.fz, s.fx, s.fp, s.fc, s.sp, 8, s.ie, false⟩ := by kernel_rfl
  have g2 : Emvi1.grd (a111 s w) (g8 1 1 w) = inb (w8 w) := by kernel_rfl
  have g3 : Elxi1.grd (a112 s w) (g8 1 1 w) = (inb (w8 w) && inb (w8 (w.fdiv 256))) := by kernel_rfl
  have g4 : Einx1.grd (a113 s w) (g8 1 1 w) = (inb (w8 (w.fdiv 256)) && inb (w8 w)) := by kernel_rfl
  rw [g2, g3, g4, m1, m2, m3, m4, m5, e0]
  simp [t8, isMem_ok, neM, prM, eqF, Exchg, mOf, pc0, *]
theorem z8_11 (hs : s.Ok) (hw : B16 w) : MWp Try.prog (st8 (pc0 s) 1 1 w (g8 1 1 w) (l8 1 1 w)) (fun u _ => u = .bool true) :=
  MWp.out (cx8_ok (by simp [Emov11_ok, Emvi1_ok, Elxi1_ok, Einx1_ok, Exchg_ok])) 3000 _ (x8_11 s w) (y8_11 s w hs hw _ rfl) (fun _ => rfl)
end
section
variable (s : Sv) (w : Int)
def a121 : Mc := Emov12.mf (mOf (pc0 s)) (g8 1 2 w)
def a122 : Mc := Emvi1.mf (a121 s w) (g8 1 2 w)
def a123 : Mc := Elxi1.mf (a122 s w) (g8 1 2 w)
def a124 : Mc := Einx1.mf (a123 s w) (g8 1 2 w)
def a125 : Mc := Exchg.mf (a124 s w) (g8 1 2 w)
set_option maxRecDepth 100000 in
theorem x8_12 : (Ly.run (cx8 [Emov12, Emvi1, Elxi1, Einx1, Exchg]) 3000 [(4, true), (10, false), (3, true), (2, true), (8, false), (2, true), (3, true), (14, true), (4, true), (36, true), (5, true), (10, true), (4, true), (15, true), (15, true), (10, true)] (st8 (pc0 s) 1 2 w (g8 1 2 w) (l8 1 2 w))).out? = some (t8 (mOf (pc0 s)) (a121 s w) (a122 s w) (a123 s w) (a124 s w) (a125 s w) { mOf (pc0 s) with r1 := s.r2 } { mOf (pc0 s) with r1 := w8 w } (g8 1 2 w) w 1 (Emvi1.grd (a121 s w) (g8 1 2 w)) (Elxi1.grd (a122 s w) (g8 1 2 w)) (Einx1.grd (a123 s w) (g8 1 2 w)) (Exchg.grd (a124 s w) (g8 1 2 w)), .bool true) := by kernel_rfl
theorem y8_12 (hs : s.Ok) (hw : B16 w) (u : List (Bool × Bool)) (hu : u = t8 (mOf (pc0 s)) (a121 s w) (a122 s w) (a123 s w) (a124 s w) (a125 s w) { mOf (pc0 s) with r1 := s.r2 } { mOf (pc0 s) with r1 := w8 w } (g8 1 2 w) w 1 (Emvi1.grd (a121 s w) (g8 1 2 w)) (Elxi1.grd (a122 s w) (g8 1 2 w)) (Einx1.grd (a123 s w) (g8 1 2 w)) (Exchg.grd (a124 s w) (g8 1 2 w))) : trusted u := by
  obtain ⟨⟨q0, q1, q2, q3, q4, q5, q6, q7⟩, qs, qp⟩ := hs
  subst hu
  have e0 := hilo hw
  have e1 := hilo1 (w + 1)
  have n1 := b8hi (w + 1)
  have m1 : a121 s w = ⟨s.r0, s.r2, s.r2, s.r3, s.r4, s.r5, s.r7, s.fs, s.fz, s.fx, s.fp, s.fc, s.sp, 1, s.ie, false⟩ := by kernel_rfl
  have m2 : a122 s w = ⟨s.r0, w8 w, s.r2, s.r3, s.r4, s.r5, s.r7, s.fs, s.fz, s.fx, s.fp, s.fc, s.sp, 3, s.ie, false⟩ := by kernel_rfl
  have m3 : a123 s w = ⟨s.r0, w8 w, w8 (w.fdiv 256), w8 w, s.r4, s.r5, s.r7, s.fs, s.fz, s.fx, s.fp, s.fc, s.sp, 6, s.ie, false⟩ := by kernel_rfl
  have m4 : a124 s w = ⟨s.r0, w8 w, (256 * w8 (w.fdiv 256) + w8 w + 1) % 65536 / 256, (256 * w8 (w.fdiv 256) + w8 w + 1) % 256, s.r4, s.r5, s.r7, s.fs, s.fz, s.fx, s.fp, s.fc, s.sp, 7, s.ie, false⟩ := by kernel_rfl
  have m5 : a125 s w = ⟨s.r0, w8 w, s.r4, s.r5, (256 * w8 (w.fdiv 256) + w8 w + 1) % 65536 / 256, (256 * w8 (w.fdiv 256) + w8 w + 1) % 256, s.r7, s.fs, s.fz, s.fx, s.fp, s.fc, s.sp, 8, s.ie, false⟩ := by kernel_rfl
  have g2 : Emvi1.grd (a121 s w) (g8 1 2 w) = inb (w8 w) := by kernel_rfl
  have g3 : Elxi1.grd (a122 s w) (g8 1 2 w) = (inb (w8 w) && inb (w8 (w.fdiv 256))) := by kernel_rfl
  have g4 : Einx1.grd (a123 s w) (g8 1 2 w) = (inb (w8 (w.fdiv 256)) && inb (w8 w)) := by kernel_rfl
  rw [g2, g3, g4, m1, m2, m3, m4, m5, e0]
  simp [t8, isMem_ok, neM, prM, eqF, Exchg, mOf, pc0, *]
theorem z8_12 (hs : s.Ok) (hw : B16 w) : MWp Try.prog (st8 (pc0 s) 1 2 w (g8 1 2 w) (l8 1 2 w)) (fun u _ => u = .bool true) :=
  MWp.out (cx8_ok (by simp [Emov12_ok, Emvi1_ok, Elxi1_ok, Einx1_ok, Exchg_ok])) 3000 _ (x8_12 s w) (y8_12 s w hs hw _ rfl) (fun _ => rfl)
end
section
variable (s : Sv) (w : Int)
def a131 : Mc := Emov13.mf (mOf (pc0 s)) (g8 1 3 w)
def a132 : Mc := Emvi1.mf (a131 s w) (g8 1 3 w)
def a133 : Mc := Elxi1.mf (a132 s w) (g8 1 3 w)
def a134 : Mc := Einx1.mf (a133 s w) (g8 1 3 w)
def a135 : Mc := Exchg.mf (a134 s w) (g8 1 3 w)
set_option maxRecDepth 100000 in
theorem x8_13 : (Ly.run (cx8 [Emov13, Emvi1, Elxi1, Einx1, Exchg]) 3000 [(4, true), (10, false), (3, true), (2, true), (8, false), (2, true), (3, true), (14, true), (4, true), (36, true), (5, true), (10, true), (4, true), (15, true), (15, true), (10, true)] (st8 (pc0 s) 1 3 w (g8 1 3 w) (l8 1 3 w))).out? = some (t8 (mOf (pc0 s)) (a131 s w) (a132 s w) (a133 s w) (a134 s w) (a135 s w) { mOf (pc0 s) with r1 := s.r3 } { mOf (pc0 s) with r1 := w8 w } (g8 1 3 w) w 1 (Emvi1.grd (a131 s w) (g8 1 3 w)) (Elxi1.grd (a132 s w) (g8 1 3 w)) (Einx1.grd (a133 s w) (g8 1 3 w)) (Exchg.grd (a134 s w) (g8 1 3 w)), .bool true) := by kernel_rfl
theorem y8_13 (hs : s.Ok) (hw : B16 w) (u : List (Bool × Bool)) (hu : u = t8 (mOf (pc0 s)) (a131 s w) (a132 s w) (a133 s w) (a134 s w) (a135 s w) { mOf (pc0 s) with r1 := s.r3 } { mOf (pc0 s) with r1 := w8 w } (g8 1 3 w) w 1 (Emvi1.grd (a131 s w) (g8 1 3 w)) (Elxi1.grd (a132 s w) (g8 1 3 w)) (Einx1.grd (a133 s w) (g8 1 3 w)) (Exchg.grd (a134 s w) (g8 1 3 w))) : trusted u := by
  obtain ⟨⟨q0, q1, q2, q3, q4, q5, q6, q7⟩, qs, qp⟩ := hs
  subst hu
  have e0 := hilo hw
  have e1 := hilo1 (w + 1)
  have n1 := b8hi (w + 1)
  have m1 : a131 s w = ⟨s.r0, s.r3, s.r2, s.r3, s.r4, s.r5, s.r7, s.fs, s.fz, s.fx, s.fp, s.fc, s.sp, 1, s.ie, false⟩ := by kernel_rfl
  have m2 : a132 s w = ⟨s.r0, w8 w, s.r2, s.r3, s.r4, s.r5, s.r7, s.fs, s.fz, s.fx, s.fp, s.fc, s.sp, 3, s.ie, false⟩ := by kernel_rfl
  have m3 : a133 s w = ⟨s.r0, w8 w, w8 (w.fdiv 256), w8 w, s.r4, s.r5, s.r7, s.fs, s.fz, s.fx, s.fp, s.fc, s.sp, 6, s.ie, false⟩ := by kernel_rfl
  have m4 : a134 s w = ⟨s.r0, w8 w, (256 * w8 (w.fdiv 256) + w8 w + 1) % 65536 / 256, (256 * w8 (w.fdiv 256) + w8 w + 1) % 256, s.r4, s.r5, s.r7, s.fs, s.fz, s.fx, s.fp, s.fc, s.sp, 7, s.ie, false⟩ := by kernel_rfl
  have m5 : a135 s w = ⟨s.r0, w8 w, s.r4, s.r5, (256 * w8 (w.fdiv 256) + w8 w + 1) % 65536 / 256, (256 * w8 (w.fdiv 256) + w8 w + 1) % 256, s.r7, s.fs, s.fz, s.fx, s.fp, s.fc, s.sp, 8, s.ie, false⟩ := by kernel_rfl
  have g2 : Emvi1.grd (a131 s w) (g8 1 3 w) = inb (w8 w) := by kernel_rfl
  have g3 : Elxi1.grd (a132 s w) (g8 1 3 w) = (inb (w8 w) && inb (w8 (w.fdiv 256))) := by kernel_rfl
  have g4 : Einx1.grd (a133 s w) (g8 1 3 w) = (inb (w8 (w.fdiv 256)) && inb (w8 w)) := by kernel_rfl
  rw [g2, g3, g4, m1, m2, m3, m4, m5, e0]
  simp [t8, isMem_ok, neM, prM, eqF, Exchg, mOf, pc0, *]
theorem z8_13 (hs : s.Ok) (hw : B16 w) : MWp Try.prog (st8 (pc0 s) 1 3 w (g8 1 3 w) (l8 1 3 w)) (fun u _ => u = .bool true) :=
  MWp.out (cx8_ok (by simp [Emov13_ok, Emvi1_ok, Elxi1_ok, Einx1_ok, Exchg_ok])) 3000 _ (x8_13 s w) (y8_13 s w hs hw _ rfl) (fun _ => rfl)
end
section
variable (s : Sv) (w : Int)
def a141 : Mc := Emov14.mf (mOf (pc0 s)) (g8 1 4 w)
def a142 : Mc := Emvi1.mf (a141 s w) (g8 1 4 w)
def a143 : Mc := Elxi1.mf (a142 s w) (g8 1 4 w)
def a144 : Mc := Einx1.mf (a143 s w) (g8 1 4 w)
def a145 : Mc := Exchg.mf (a144 s w) (g8 1 4 w)
set_option maxRecDepth 100000 in
theorem x8_14 : (Ly.run (cx8 [Emov14, Emvi1, Elxi1, Einx1, Exchg]) 3000 [(4, true), (10, false), (3, true), (2, true), (8, false), (2, true), (3, true), (14, true), (4, true), (36, true), (5, true), (10, true), (4, true), (15, true), (15, true), (10, true)] (st8 (pc0 s) 1 4 w (g8 1 4 w) (l8 1 4 w))).out? = some (t8 (mOf (pc0 s)) (a141 s w) (a142 s w) (a143 s w) (a144 s w) (a145 s w) { mOf (pc0 s) with r1 := s.r4 } { mOf (pc0 s) with r1 := w8 w } (g8 1 4 w) w 1 (Emvi1.grd (a141 s w) (g8 1 4 w)) (Elxi1.grd (a142 s w) (g8 1 4 w)) (Einx1.grd (a143 s w) (g8 1 4 w)) (Exchg.grd (a144 s w) (g8 1 4 w)), .bool true) := by kernel_rfl
theorem y8_14 (hs : s.Ok) (hw : B16 w) (u : List (Bool × Bool)) (hu : u = t8 (mOf (pc0 s)) (a141 s w) (a142 s w) (a143 s w) (a144 s w) (a145 s w) { mOf (pc0 s) with r1 := s.r4 } { mOf (pc0 s) with r1 := w8 w } (g8 1 4 w) w 1 (Emvi1.grd (a141 s w) (g8 1 4 w)) (Elxi1.grd (a142 s w) (g8 1 4 w)) (Einx1.grd (a143 s w) (g8 1 4 w)) (Exchg.grd (a144 s w) (g8 1 4 w))) : trusted u := by
  obtain ⟨⟨q0, q1, q2, q3, q4, q5, q6, q7⟩, qs, qp⟩ := hs
  subst hu
  have e0 := hilo hw
  have e1 := hilo1 (w + 1)
  have n1 := b8hi (w + 1)
  have m1 : a141 s w = ⟨s.r0, s.r4, s.r2, s.r3, s.r4, s.r5, s.r7, s.fs, s.fz, s.fx, s.fp, s.fc, s.sp, 1, s.ie, false⟩ := by kernel_rfl
  have m2 : a142 s w = ⟨s.r0, w8 w, s.r2, s.r3, s.r4, s.r5, s.r7, s.fs, s.fz, s.fx, s.fp, s.fc, s.sp, 3, s.ie, false⟩ := by kernel_rfl
  have m3 : a143 s w = ⟨s.r0, w8 w, w8 (w.fdiv 256), w8 w, s.r4, s.r5, s.r7, s.fs, s.fz, s.fx, s.fp, s.fc, s.sp, 6, s.ie, false⟩ := by kernel_rfl
  have m4 : a144 s w = ⟨s.r0, w8 w, (256 * w8 (w.fdiv 256) + w8 w + 1) % 65536 / 256, (256 * w8 (w.fdiv 256) + w8 w + 1) % 256, s.r4, s.r5, s.r7, s.fs, s.fz, s.fx, s.fp, s.fc, s.sp, 7, s.ie, false⟩ := by kernel_rfl
  have m5 : a145 s w = ⟨s.r0, w8 w, s.r4, s.r5, (256 * w8 (w.fdiv 256) + w8 w + 1) % 65536 / 256, (256 * w8 (w.fdiv 256) + w8 w + 1) % 256, s.r7, s.fs, s.fz, s.fx, s.fp, s.fc, s.sp, 8, s.ie, false⟩ := by kernel_rfl
  have g2 : Emvi1.grd (a141 s w) (g8 1 4 w) = inb (w8 w) := by kernel_rfl
  have g3 : Elxi1.grd (a142 s w) (g8 1 4 w) = (inb (w8 w) && inb (w8 (w.fdiv 256))) := by kernel_rfl
  have g4 : Einx1.grd (a143 s w) (g8 1 4 w) = (inb (w8 (w.fdiv 256)) && inb (w8 w)) := by kernel_rfl
  rw [g2, g3, g4, m1, m2, m3, m4, m5, e0]
  simp [t8, isMem_ok, neM, prM, eqF, Exchg, mOf, pc0, *]
theorem z8_14 (hs : s.Ok) (hw : B16 w) : MWp Try.prog (st8 (pc0 s) 1 4 w (g8 1 4 w) (l8 1 4 w)) (fun u _ => u = .bool true) :=
  MWp.out (cx8_ok (by simp [Emov14_ok, Emvi1_ok, Elxi1_ok, Einx1_ok, Exchg_ok])) 3000 _ (x8_14 s w) (y8_14 s w hs hw _ rfl) (fun _ => rfl)
end
section
variable (s : Sv) (w : Int)
def a151 : Mc := Emov15.mf (mOf (pc0 s)) (g8 1 5 w)
def a152 : Mc := Emvi1.mf (a151 s w) (g8 1 5 w)
def a153 : Mc := Elxi1.mf (a152 s w) (g8 1 5 w)
def a154 : Mc := Einx1.mf (a153 s w) (g8 1 5 w)
def a155 : Mc := Exchg.mf (a154 s w) (g8 1 5 w)
set_option maxRecDepth 100000 in
theorem x8_15 : (Ly.run (cx8 [Emov15, Emvi1, Elxi1, Einx1, Exchg]) 3000 [(4, true), (10, false), (3, true), (2, true), (8, false), (2, true), (3, true), (14, true), (4, true), (36, true), (5, true), (10, true), (4, true), (15, true), (15, true), (10, true)] (st8 (pc0 s) 1 5 w (g8 1 5 w) (l8 1 5 w))).out? = some (t8 (mOf (pc0 s)) (a151 s w) (a152 s w) (a153 s w) (a154 s w) (a155 s w) { mOf (pc0 s) with r1 := s.r5 } { mOf (pc0 s) with r1 := w8 w } (g8 1 5 w) w 1 (Emvi1.grd (a151 s w) (g8 1 5 w)) (Elxi1.grd (a152 s w) (g8 1 5 w)) (Einx1.grd (a153 s w) (g8 1 5 w)) (Exchg.grd (a154 s w) (g8 1 5 w)), .bool true) := by kernel_rfl
theorem y8_15 (hs : s.Ok) (hw : B16 w) (u : List (Bool × Bool)) (hu : u = t8 (mOf (pc0 s)) (a151 s w) (a152 s w) (a153 s w) (a154 s w) (a155 s w) { mOf (pc0 s) with r1 := s.r5 } { mOf (pc0 s) with r1 := w8 w } (g8 1 5 w) w 1 (Emvi1.grd (a151 s w) (g8 1 5 w)) (Elxi1.grd (a152 s w) (g8 1 5 w)) (Einx1.grd (a153 s w) (g8 1 5 w)) (Exchg.grd (a154 s w) (g8 1 5 w))) : trusted u := by
  obtain ⟨⟨q0, q1, q2, q3, q4, q5, q6, q7⟩, qs, qp⟩ := hs
  subst hu
  have e0 := hilo hw
  have e1 := hilo1 (w + 1)
  have n1 := b8hi (w + 1)
  have m1 : a151 s w = ⟨s.r0, s.r5, s.r2, s.r3, s.r4, s.r5, s.r7, s.fs, s.fz, s.fx, s.fp, s.fc, s.sp, 1, s.ie, false⟩ := by kernel_rfl
  have m2 : a152 s w = ⟨s.r0, w8 w, s.r2, s.r3, s.r4, s.r5, s.r7, s.fs, s.fz, s.fx, s.fp, s.fc, s.sp, 3, s.ie, false⟩ := by kernel_rfl
  have m3 : a153 s w = ⟨s.r0, w8 w, w8 (w.fdiv 256), w8 w, s.r4, s.r5, s.r7, s.fs, s.fz, s.fx, s.fp, s.fc, s.sp, 6, s.ie, false⟩ := by kernel_rfl
  have m4 : a154 s w = ⟨s.r0, w8 w, (256 * w8 (w.fdiv 256) + w8 w + 1) % 65536 / 256, (256 * w8 (w.fdiv 256) + w8 w + 1) % 256, s.r4, s.r5, s.r7, s.fs, s.fz, s.fx, s.fp, s.fc, s.sp, 7, s.ie, false⟩ := by kernel_rfl
  have m5 : a155 s w = ⟨s.r0, w8 w, s.r4, s.r5, (256 * w8 (w.fdiv 256) + w8 w + 1) % 65536 / 256, (256 * w8 (w.fdiv 256) + w8 w + 1) % 256, s.r7, s.fs, s.fz, s.fx, s.fp, s.fc, s.sp, 8, s.ie, false⟩ := by kernel_rfl
  have g2 : Emvi1.grd (a151 s w) (g8 1 5 w) = inb (w8 w) := by kernel_rfl
  have g3 : Elxi1.grd (a152 s w) (g8 1 5 w) = (inb (w8 w) && inb (w8 (w.fdiv 256))) := by kernel_rfl
  have g4 : Einx1.grd (a153 s w) (g8 1 5 w) = (inb (w8 (w.fdiv 256)) && inb (w8 w)) := by kernel_rfl
  rw [g2, g3, g4, m1, m2, m3, m4, m5, e0]
  simp [t8, isMem_ok, neM, prM, eqF, Exchg, mOf, pc0, *]
theorem z8_15 (hs : s.Ok) (hw : B16 w) : MWp Try.prog (st8 (pc0 s) 1 5 w (g8 1 5 w) (l8 1 5 w)) (fun u _ => u = .bool true) :=
  MWp.out (cx8_ok (by simp [Emov15_ok, Emvi1_ok, Elxi1_ok, Einx1_ok, Exchg_ok])) 3000 _ (x8_15 s w) (y8_15 s w hs hw _ rfl) (fun _ => rfl)
end
section
variable (s : Sv) (w : Int)
def a171 : Mc := Emov17.mf (mOf (pc0 s)) (g8 1 7 w)
def a172 : Mc := Emvi1.mf (a171 s w) (g8 1 7 w)
def a173 : Mc := Elxi1.mf (a172 s w) (g8 1 7 w)
def a174 : Mc := Einx1.mf (a173 s w) (g8 1 7 w)
def a175 : Mc := Exchg.mf (a174 s w) (g8 1 7 w)
set_option maxRecDepth 100000 in
theorem x8_17 : (Ly.run (cx8 [Emov17, Emvi1, Elxi1, Einx1, Exchg]) 3000 [(4, true), (10, false), (3, true), (2, true), (8, false), (2, true), (3, true), (14, true), (4, true), (36, true), (5, true), (10, true), (4, true), (15, true), (15, true), (10, true)] (st8 (pc0 s) 1 7 w (g8 1 7 w) (l8 1 7 w))).out? = some (t8 (mOf (pc0 s)) (a171 s w) (a172 s w) (a173 s w) (a174 s w) (a175 s w) { mOf (pc0 s) with r1 := s.r7 } { mOf (pc0 s) with r1 := w8 w } (g8 1 7 w) w 1 (Emvi1.grd (a171 s w) (g8 1 7 w)) (Elxi1.grd (a172 s w) (g8 1 7 w)) (Einx1.grd (a173 s w) (g8 1 7 w)) (Exchg.grd (a174 s w) (g8 1 7 w)), .bool true) := by kernel_rfl
theorem y8_17 (hs : s.Ok) (hw : B16 w) (u : List (Bool × Bool)) (hu : u = t8 (mOf (pc0 s)) (a171 s w) (a172 s w) (a173 s w) (a174 s w) (a175 s w) { mOf (pc0 s) with r1 := s.r7 } { mOf (pc0 s) with r1 := w8 w } (g8 1 7 w) w 1 (Emvi1.grd (a171 s w) (g8 1 7 w)) (Elxi1.grd (a172 s w) (g8 1 7 w)) (Einx1.grd (a173 s w) (g8 1 7 w)) (Exchg.grd (a174 s w) (g8 1 7 w))) : trusted u := by
  obtain ⟨⟨q0, q1, q2, q3, q4, q5, q6, q7⟩, qs, qp⟩ := hs
  subst hu
  have e0 := hilo hw
  have e1 := hilo1 (w + 1)
  have n1 := b8hi (w + 1)
  have m1 : a171 s w = ⟨s.r0, s.r7, s.r2, s.r3, s.r4, s.r5, s.r7, s.fs, s.fz, s.fx, s.fp, s.fc, s.sp, 1, s.ie, false⟩ := by kernel_rfl
  have m2 : a172 s w = ⟨s.r0, w8 w, s.r2, s.r3, s.r4, s.r5, s.r7, s.fs, s.fz, s.fx, s.fp, s.fc, s.sp, 3, s.ie, false⟩ := by kernel_rfl
  have m3 : a173 s w = ⟨s.r0, w8 w, w8 (w.fdiv 256), w8 w, s.r4, s.r5, s.r7, s.fs, s.fz, s.fx, s.fp, s.fc, s.sp, 6, s.ie, false⟩ := by kernel_rfl
  have m4 : a174 s w = ⟨s.r0, w8 w, (256 * w8 (w.fdiv 256) + w8 w + 1) % 65536 / 256, (256 * w8 (w.fdiv 256) + w8 w + 1) % 256, s.r4, s.r5, s.r7, s.fs, s.fz, s.fx, s.fp, s.fc, s.sp, 7, s.ie, false⟩ := by kernel_rfl
  have m5 : a175 s w = ⟨s.r0, w8 w, s.r4, s.r5, (256 * w8 (w.fdiv 256) + w8 w + 1) % 65536 / 256, (256 * w8 (w.fdiv 256) + w8 w + 1) % 256, s.r7, s.fs, s.fz, s.fx, s.fp, s.fc, s.sp, 8, s.ie, false⟩ := by kernel_rfl
  have g2 : Emvi1.grd (a171 s w) (g8 1 7 w) = inb (w8 w) := by kernel_rfl
  have g3 : Elxi1.grd (a172 s w) (g8 1 7 w) = (inb (w8 w) && inb (w8 (w.fdiv 256))) := by kernel_rfl
  have g4 : Einx1.grd (a173 s w) (g8 1 7 w) = (inb (w8 (w.fdiv 256)) && inb (w8 w)) := by kernel_rfl
  rw [g2, g3, g4, m1, m2, m3, m4, m5, e0]
  simp [t8, isMem_ok, neM, prM, eqF, Exchg, mOf, pc0, *]
theorem z8_17 (hs : s.Ok) (hw : B16 w) : MWp Try.prog (st8 (pc0 s) 1 7 w (g8 1 7 w) (l8 1 7 w)) (fun u _ => u = .bool true) :=
  MWp.out (cx8_ok (by simp [Emov17_ok, Emvi1_ok, Elxi1_ok, Einx1_ok, Exchg_ok])) 3000 _ (x8_17 s w) (y8_17 s w hs hw _ rfl) (fun _ => rfl)
end
theorem z8d1 (r : Int) (h3 : 0 ≤ r) (h4 : r ≤ 7) (hr6 : r ≠ 6) (s : Sv) (w : Int) (hs : s.Ok) (hw : B16 w) : MWp Try.prog (st8 (pc0 s) 1 r w (g8 1 r w) (l8 1 r w)) (fun u _ => u = .bool true) := by
  have : r = 0 ∨ r = 1 ∨ r = 2 ∨ r = 3 ∨ r = 4 ∨ r = 5 ∨ r = 7 := by omega
  rcases this with rfl | rfl | rfl | rfl | rfl | rfl | rfl
  · exact z8_10 s w hs hw
  · exact z8_11 s w hs hw
  · exact z8_12 s w hs hw
  · exact z8_13 s w hs hw
  · exact z8_14 s w hs hw
  · exact z8_15 s w hs hw
  · exact z8_17 s w hs hw
end Go.Proofs.Ytpggoincnebfnaa
namespace Go.Proofs.Ytpggoincnebfnaa
open Go Go.Ly Go.RowKit
section
variable (s : Sv) (w : Int)
def a201 : Mc := Emov20.mf (mOf (pc0 s)) (g8 2 0 w)
def a202 : Mc := Emvi2.mf (a201 s w) (g8 2 0 w)
def a203 : Mc := Elxi2.mf (a202 s w) (g8 2 0 w)
def a204 : Mc := Einx2.mf (a203 s w) (g8 2 0 w)
def a205 : Mc := Exchg.mf (a204 s w) (g8 2 0 w)
set_option maxRecDepth 100000 in
theorem x8_20 : (Ly.run (cx8 [Emov20, Emvi2, Elxi2, Einx2, Exchg]) 3000 [(4, true), (10, false), (3, true), (2, true), (8, false), (2, true), (3, true), (14, true), (4, true), (36, true), (5, true), (10, true), (4, true), (15, true), (15, true), (10, true)] (st8 (pc0 s) 2 0 w (g8 2 0 w) (l8 2 0 w))).out? = some (t8 (mOf (pc0 s)) (a201 s w) (a202 s w) (a203 s w) (a204 s w) (a205 s w) { mOf (pc0 s) with r2 := s.r0 } { mOf (pc0 s) with r2 := w8 w } (g8 2 0 w) w 2 (Emvi2.grd (a201 s w) (g8 2 0 w)) (Elxi2.grd (a202 s w) (g8 2 0 w)) (Einx2.grd (a203 s w) (g8 2 0 w)) (Exchg.grd (a204 s w) (g8 2 0 w)), .bool true) := by kernel_rfl
theorem y8_20 (hs : s.Ok) (hw : B16 w) (u : List (Bool × Bool)) (hu : u = t8 (mOf (pc0 s)) (a201 s w) (a202 s w) (a203 s w) (a204 s w) (a205 s w) { mOf (pc0 s) with r2 := s.r0 } { mOf (pc0 s) with r2 := w8 w } (g8 2 0 w) w 2 (Emvi2.grd (a201 s w) (g8 2 0 w)) (Elxi2.grd (a202 s w) (g8 2 0 w)) (Einx2.grd (a203 s w) (g8 2 0 w)) (Exchg.grd (a204 s w) (g8 2 0 w))) : trusted u := by
  obtain ⟨⟨q0, q1, q2, q3, q4, q5, q6, q7⟩, qs, qp⟩ := hs
  subst hu
  have e0 := hilo hw
  have e1 := hilo1 (w + 1)
  have n1 := b8hi (w + 1)
  have m1 : a201 s w = ⟨s.r0, s.r1, s.r0, s.r3, s.r4, s.r5, s.r7, s.fs, s.fz, s.fx, s.fp, s.fc, s.sp, 1, s.ie, false⟩ := by kernel_rfl
  have m2 : a202 s w = ⟨s.r0, s.r1, w8 w, s.r3, s.r4, s.r5, s.r7, s.fs, s.fz, s.fx, s.fp, s.fc, s.sp, 3, s.ie, false⟩ := by kernel_rfl
  have m3 : a203 s w = ⟨s.r0, s.r1, w8 w, s.r3, w8 (w.fdiv 256), w8 w, s.r7, s.fs, s.fz, s.fx, s.fp, s.fc, s.sp, 6, s.ie, false⟩ := by kernel_rfl
  have m4 : a204 s w = ⟨s.r0, s.r1, w8 w, s.r3, (256 * w8 (w.fdiv 256) + w8 w + 1) % 65536 / 256, (256 * w8 (w.fdiv 256) + w8 w + 1) % 256, s.r7, s.fs, s.fz, s.fx, s.fp, s.fc, s.sp, 7, s.ie, false⟩ := by kernel_rfl
  have m5 : a205 s w = ⟨s.r0, s.r1, (256 * w8 (w.fdiv 256) + w8 w + 1) % 65536 / 256, (256 * w8 (w.fdiv 256) + w8 w + 1) % 256, w8 w, s.r3, s.r7, s.fs, s.fz, s.fx, s.fp, s.fc, s.sp, 8, s.ie, false⟩ := by kernel_rfl
  have g2 : Emvi2.grd (a201 s w) (g8 2 0 w) = inb (w8 w) := by kernel_rfl
  have g3 : Elxi2.grd (a202 s w) (g8 2 0 w) = (inb (w8 w) && inb (w8 (w.fdiv 256))) := by kernel_rfl
  have g4 : Einx2.grd (a203 s w) (g8 2 0 w) = (inb (w8 (w.fdiv 256)) && inb (w8 w)) := by kernel_rfl
  rw [g2, g3, g4, m1, m2, m3, m4, m5, e0]
  simp [t8, isMem_ok, neM, prM, eqF, Exchg, mOf, pc0, *]
theorem z8_20 (hs : s.Ok) (hw : B16 w) : MWp Try.prog (st8 (pc0 s) 2 0 w (g8 2 0 w) (l8 2 0 w)) (fun u _ => u = .bool true) :=
  MWp.out (cx8_ok (by simp [Emov20_ok, Emvi2_ok, Elxi2_ok, Einx2_ok, Exchg_ok])) 3000 _ (x8_20 s w) (y8_20 s w hs hw _ rfl) (fun _ => rfl)
end
section
variable (s : Sv) (w : Int)
def a211 : Mc := Emov21.mf (mOf (pc0 s)) (g8 2 1 w)
def a212 : Mc := Emvi2.mf (a211 s w) (g8 2 1 w)
def a213 : Mc := Elxi2.mf (a212 s w) (g8 2 1 w)
def a214 : Mc := Einx2.mf (a213 s w) (g8 2 1 w)
def a215 : Mc := Exchg.mf (a214 s w) (g8 2 1 w)
set_option maxRecDepth 100000 in
theorem x8_21 : (Ly.run (cx8 [Emov21, Emvi2, Elxi2, Einx2, Exchg]) 3000 [(4, true), (10, false), (3, true), (2, true), (8, false), (2, true), (3, true), (14, true), (4, true), (36, true), (5, true), (10, true), (4, true), (15, true), (15, true), (10, true)] (st8 (pc0 s) 2 1 w (g8 2 1 w) (l8 2 1 w))).out? = some (t8 (mOf (pc0 s)) (a211 s w) (a212 s w) (a213 s w) (a214 s w) (a215 s w) { mOf (pc0 s) with r2 := s.r1 } { mOf (pc0 s) with r2 := w8 w } (g8 2 1 w) w 2 (Emvi2.grd (a211 s w) (g8 2 1 w)) (Elxi2.grd (a212 s w) (g8 2 1 w)) (Einx2.grd (a213 s w) (g8 2 1 w)) (Exchg.grd (a214 s w) (g8 2 1 w)), .bool true) := by kernel_rfl
theorem y8_21 (hs : s.Ok) (hw : B16 w) (u : List (Bool × Bool)) (hu : u = t8 (mOf (pc0 s)) (a211 s w) (a212 s w) (a213 s w) (a214 s w) (a215 s w) { mOf (pc0 s) with r2 := s.r1 } { mOf (pc0 s) with r2 := w8 w } (g8 2 1 w) w 2 (Emvi2.grd (a211 s w) (g8 2 1 w)) (Elxi2.grd (a212 s w) (g8 2 1 w)) (Einx2.grd (a213 s w) (g8 2 1 w)) (Exchg.grd (a214 s w) (g8 2 1 w))) : trusted u := by
  obtain ⟨⟨q0, q1, q2, q3, q4, q5, q6, q7⟩, qs, qp⟩ := hs
  subst hu
  have e0 := hilo hw
  have e1 := hilo1 (w + 1)
  have n1 := b8hi (w + 1)
  have m1 : a211 s w = ⟨s.r0, s.r1, s.r1, s.r3, s.r4, s.r5, s.r7, s.fs, s.fz, s.fx, s.fp, s.fc, s.sp, 1, s.ie, false⟩ := by kernel_rfl
  have m2 : a212 s w = ⟨s.r0, s.r1, w8 w, s.r3, s.r4, s.r5, s.r7, s.fs, s.fz, s.fx, s.fp, s.fc, s.sp, 3, s.ie, false⟩ := by kernel_rfl
  have m3 : a213 s w = ⟨s.r0, s.r1, w8 w, s.r3, w8 (w.fdiv 256), w8 w, s.r7, s.fs, s.fz, s.fx, s.fp, s.fc, s.sp, 6, s.ie, false⟩ := by kernel_rfl
  have m4 : a214 s w = ⟨s.r0, s.r1, w8 w, s.r3, (256 * w8 (w.fdiv 256) + w8 w + 1) % 65536 / 256, (256 * w8 (w.fdiv 256) + w8 w + 1) % 256, s.r7, s.fs, s.fz, s.fx, s.fp, s.fc, s.sp, 7, s.ie, false⟩ := by kernel_rfl
  have m5 : a215 s w = ⟨s.r0, s.r1, (256 * w8 (w.fdiv 256) + w8 w + 1) % 65536 / 256, (256 * w8 (w.fdiv 256) + w8 w + 1) % 256, w8 w, s.r3, s.r7, s.fs, s.fz, s.fx, s.fp, s.fc, s.sp, 8, s.ie, false⟩ := by kernel_rfl
  have g2 : Emvi2.grd (a211 s w) (g8 2 1 w) = inb (w8 w) := by kernel_rfl
  have g3 : Elxi2.grd (a212 s w) (g8 2 1 w) = (inb (w8 w) && inb (w8 (w.fdiv 256))) := by kernel_rfl
  have g4 : Einx2.grd (a213 s w) (g8 2 1 w) = (inb (w8 (w.fdiv 256)) && inb (w8 w)) := by kernel_rfl
  rw [g2, g3, g4, m1, m2, m3, m4, m5, e0]
  simp [t8, isMem_ok, neM, prM, eqF, Exchg, mOf, pc0, *]
theorem z8_21 (hs : s.Ok) (hw : B16 w) : MWp Try.prog (st8 (pc0 s) 2 1 w (g8 2 1 w) (l8 2 1 w)) (fun u _ => u = .bool true) :=
  MWp.out (cx8_ok (by simp [Emov21_ok, Emvi2_ok, Elxi2_ok, Einx2_ok, Exchg_ok])) 3000 _ (x8_21 s w) (y8_21 s w hs hw _ rfl) (fun _ => rfl)
end
section
variable (s : Sv) (w : Int)
def a221 : Mc := Emov22.mf (mOf (pc0 s)) (g8 2 2 w)
def a222 : Mc := Emvi2.mf (a221 s w) (g8 2 2 w)
def a223 : Mc := Elxi2.mf (a222 s w) (g8 2 2 w)
def a224 : Mc := Einx2.mf (a223 s w) (g8 2 2 w)
def a225 : Mc := Exchg.mf (a224 s w) (g8 2 2 w)
set_option maxRecDepth 100000 in
theorem x8_22 : (Ly.run (cx8 [Emov22, Emvi2, Elxi2, Einx2, Exchg]) 3000 [(4, true), (10, false), (3, true), (2, true), (8, false), (2, true), (3, true), (14, true), (4, true), (36, true), (5, true), (10, true), (4, true), (15, true), (15, true), (10, true)] (st8 (pc0 s) 2 2 w (g8 2 2 w) (l8 2 2 w))).out? = some (t8 (mOf (pc0 s)) (a221 s w) (a222 s w) (a223 s w) (a224 s w) (a225 s w) { mOf (pc0 s) with r2 := s.r2 } { mOf (pc0 s) with r2 := w8 w } (g8 2 2 w) w 2 (Emvi2.grd (a221 s w) (g8 2 2 w)) (Elxi2.grd (a222 s w) (g8 2 2 w)) (Einx2.grd (a223 s w) (g8 2 2 w)) (Exchg.grd (a224 s w) (g8 2 2 w)), .bool true) := by kernel_rfl
theorem y8_22 (hs : s.Ok) (hw : B16 w) (u : List (Bool × Bool)) (hu : u = t8 (mOf (pc0 s)) (a221 s w) (a222 s w) (a223 s w) (a224 s w) (a225 s w) { mOf (pc0 s) with r2 := s.r2 } { mOf (pc0 s) with r2 := w8 w } (g8 2 2 w) w 2 (Emvi2.grd (a221 s w) (g8 2 2 w)) (Elxi2.grd (a222 s w) (g8 2 2 w)) (Einx2.grd (a223 s w) (g8 2 2 w)) (Exchg.grd (a224 s w) (g8 2 2 w))) : trusted u := by
  obtain ⟨⟨q0, q1, q2, q3, q4, q5, q6, q7⟩, qs, qp⟩ := hs
  subst hu
  have e0 := hilo hw
  have e1 := hilo1 (w + 1)
  have n1 := b8hi (w + 1)
  have m1 : a221 s w = ⟨s.r0, s.r1, s.r2, s.r3, s.r4, s.r5, s.r7, s.fs, s.fz, s.fx, s.fp, s.fc, s.sp, 1, s.ie, false⟩ := by kernel_rfl
  have m2 : a222 s w = ⟨s.r0, s.r1, w8 w, s.r3, s.r4, s.r5, s.r7, s.fs, s.fz, s.fx, s.fp, s.fc, s.sp, 3, s.ie, false⟩ := by kernel_rfl
  have m3 : a223 s w = ⟨s.r0, s.r1, w8 w, s.r3, w8 (w.fdiv 256), w8 w, s.r7, s.fs, s.fz, s.fx, s.fp, s.fc, s.sp, 6, s.ie, false⟩ := by kernel_rfl
  have m4 : a224 s w = ⟨s.r0, s.r1, w8 w, s.r3, (256 * w8 (w.fdiv 256) + w8 w + 1) % 65536 / 256, (256 * w8 (w.fdiv 256) + w8 w + 1) % 256, s.r7, s.fs, s.fz, s.fx, s.fp, s.fc, s.sp, 7, s.ie, false⟩ := by kernel_rfl
  have m5 : a225 s w = ⟨s.r0, s.r1, (256 * w8 (w.fdiv 256) + w8 w + 1) % 65536 / 256, (256 * w8 (w.fdiv 256) + w8 w + 1) % 256, w8 w, s.r3, s.r7, s.fs, s.fz, s.fx, s.fp, s.fc, s.sp, 8, s.ie, false⟩ := by kernel_rfl
  have g2 : Emvi2.grd (a221 s w) (g8 2 2 w) = inb (w8 w) := by kernel_rfl
  have g3 : Elxi2.grd (a222 s w) (g8 2 2 w) = (inb (w8 w) && inb (w8 (w.fdiv 256))) := by kernel_rfl
  have g4 : Einx2.grd (a223 s w) (g8 2 2 w) = (inb (w8 (w.fdiv 256)) && inb (w8 w)) := by kernel_rfl
  rw [g2, g3, g4, m1, m2, m3, m4, m5, e0]
  simp [t8, isMem_ok, neM, prM, eqF, Exchg, mOf, pc0, *]
theorem z8_22 (hs : s.Ok) (hw : B16 w) : MWp Try.prog (st8 (pc0 s) 2 2 w (g8 2 2 w) (l8 2 2 w)) (fun u _ => u = .bool true) :=
  MWp.out (cx8_ok (by simp [Emov22_ok, Emvi2_ok, Elxi2_ok, Einx2_ok, Exchg_ok])) 3000 _ (x8_22 s w) (y8_22 s w hs hw _ rfl) (fun _ => rfl)
end
section
variable (s : Sv) (w : Int)
def a231 : Mc := Emov23.mf (mOf (pc0 s)) (g8 2 3 w)
def a232 : Mc := Emvi2.mf (a231 s w) (g8 2 3 w)
def a233 : Mc := Elxi2.mf (a232 s w) (g8 2 3 w)
def a234 : Mc := Einx2.mf (a233 s w) (g8 2 3 w)
def a235 : Mc := Exchg.mf (a234 s w) (g8 2 3 w)
set_option maxRecDepth 100000 in
theorem x8_23 : (Ly.run (cx8 [Emov23, Emvi2, Elxi2, Einx2, Exchg]) 3000 [(4, true), (10, false), (3, true), (2, true), (8, false), (2, true), (3, true), (14, true), (4, true), (36, true), (5, true), (10, true), (4, true), (15, true), (15, true), (10, true)] (st8 (pc0 s) 2 3 w (g8 2 3 w) (l8 2 3 w))).out? = some (t8 (mOf (pc0 s)) (a231 s w) (a232 s w) (a233 s w) (a234 s w) (a235 s w) { mOf (pc0 s) with r2 := s.r3 } { mOf (pc0 s) with r2 := w8 w } (g8 2 3 w) w 2 (Emvi2.grd (a231 s w) (g8 2 3 w)) (Elxi2.grd (a232 s w) (g8 2 3 w)) (Einx2.grd (a233 s w) (g8 2 3 w)) (Exchg.grd (a234 s w) (g8 2 3 w)), .bool true) := by kernel_rfl
theorem y8_23 (hs : s.Ok) (hw : B16 w) (u : List (Bool × Bool)) (hu : u = t8 (mOf (pc0 s)) (a231 s w) (a232 s w) (a233 s w) (a234 s w) (a235 s w) { mOf (pc0 s) with r2 := s.r3 } { mOf (pc0 s) with r2 := w8 w } (g8 2 3 w) w 2 (Emvi2.grd (a231 s w) (g8 2 3 w)) (Elxi2.grd (a232 s w) (g8 2 3 w)) (Einx2.grd (a233 s w) (g8 2 3 w)) (Exchg.grd (a234 s w) (g8 2 3 w))) : trusted u := by
  obtain ⟨⟨q0, q1, q2, q3, q4, q5, q6, q7⟩, qs, qp⟩ := hs
  subst hu
  have e0 := hilo hw
  have e1 := hilo1 (w + 1)
  have n1 := b8hi (w + 1)
  have m1 : a231 s w = ⟨s.r0, s.r1, s.r3, s.r3, s.r4, s.r5, s.r7, s.fs, s.fz, s.fx, s.fp, s.fc, s.sp, 1, s.ie, false⟩ := by kernel_rfl
  have m2 : a232 s w = ⟨s.r0, s.r1, w8 w, s.r3, s.r4, s.r5, s.r7, s.fs, s.fz, s.fx, s.fp, s.fc, s.sp, 3, s.ie, false⟩ := by kernel_rfl
  have m3 : a233 s w = ⟨s.r0, s.r1, w8 w, s.r3, w8 (w.fdiv 256), w8 w, s.r7, s.fs, s.fz, s.fx, s.fp, s.fc, s.sp, 6, s.ie, false⟩ := by kernel_rfl
  have m4 : a234 s w = ⟨s.r0, s.r1, w8 w, s.r3, (256 * w8 (w.fdiv 256) + w8 w + 1) % 65536 / 256, (256 * w8 (w.fdiv 256) + w8 w + 1) % 256, s.r7, s.fs, s.fz, s.fx, s.fp, s.fc, s.sp, 7, s.ie, false⟩ := by kernel_rfl
  have m5 : a235 s w = ⟨s.r0, s.r1, (256 * w8 (w.fdiv 256) + w8 w + 1) % 65536 / 256, (256 * w8 (w.fdiv 256) + w8 w + 1) % 256, w8 w, s.r3, s.r7, s.fs, s.fz, s.fx, s.fp, s.fc, s.sp, 8, s.ie, false⟩ := by kernel_rfl
  have g2 : Emvi2.grd (a231 s w) (g8 2 3 w) = inb (w8 w) := by kernel_rfl
  have g3 : Elxi2.grd (a232 s w) (g8 2 3 w) = (inb (w8 w) && inb (w8 (w.fdiv 256))) := by kernel_rfl
  have g4 : Einx2.grd (a233 s w) (g8 2 3 w) = (inb (w8 (w.fdiv 256)) && inb (w8 w)) := by kernel_rfl
  rw [g2, g3, g4, m1, m2, m3, m4, m5, e0]
  simp [t8, isMem_ok, neM, prM, eqF, Exchg, mOf, pc0, *]
theorem z8_23 (hs : s.Ok) (hw : B16 w) : MWp Try.prog (st8 (pc0 s) 2 3 w (g8 2 3 w) (l8 2 3 w)) (fun u _ => u = .bool true) :=
  MWp.out (cx8_ok (by simp [Emov23_ok, Emvi2_ok, Elxi2_ok, Einx2_ok, Exchg_ok])) 3000 _ (x8_23 s w) (y8_23 s w hs hw _ rfl) (fun _ => rfl)
end
section
variable (s : Sv) (w : Int)
def a241 : Mc := Emov24.mf (mOf (pc0 s)) (g8 2 4 w)
def a242 : Mc := Emvi2.mf (a241 s w) (g8 2 4 w)
def a243 : Mc := Elxi2.mf (a242 s w) (g8 2 4 w)
def a244 : Mc := Einx2.mf (a243 s w) (g8 2 4 w)
def a245 : Mc := Exchg.mf (a244 s w) (g8 2 4 w)
set_option maxRecDepth 100000 in
theorem x8_24 : (Ly.run (cx8 [Emov24, Emvi2, Elxi2, Einx2, Exchg]) 3000 [(4, true), (10, false), (3, true), (2, true), (8, false), (2, true), (3, true), (14, true), (4, true), (36, true), (5, true), (10, true), (4, true), (15, true), (15, true), (10, true)] (st8 (pc0 s) 2 4 w (g8 2 4 w) (l8 2 4 w))).out? = some (t8 (mOf (pc0 s)) (a241 s w) (a242 s w) (a243 s w) (a244 s w) (a245 s w) { mOf (pc0 s) with r2 := s.r4 } { mOf (pc0 s) with r2 := w8 w } (g8 2 4 w) w 2 (Emvi2.grd (a241 s w) (g8 2 4 w)) (Elxi2.grd (a242 s w) (g8 2 4 w)) (Einx2.grd (a243 s w) (g8 2 4 w)) (Exchg.grd (a244 s w) (g8 2 4 w)), .bool true) := by kernel_rfl
theorem y8_24 (hs : s.Ok) (hw : B16 w) (u : List (Bool × Bool)) (hu : u = t8 (mOf (pc0 s)) (a241 s w) (a242 s w) (a243 s w) (a244 s w) (a245 s w) { mOf (pc0 s) with r2 := s.r4 } { mOf (pc0 s) with r2 := w8 w } (g8 2 4 w) w 2 (Emvi2.grd (a241 s w) (g8 2 4 w)) (Elxi2.grd (a242 s w) (g8 2 4 w)) (Einx2.grd (a243 s w) (g8 2 4 w)) (Exchg.grd (a244 s w) (g8 2 4 w))) : trusted u := by
  obtain ⟨⟨q0, q1, q2, q3, q4, q5, q6, q7⟩, qs, qp⟩ := hs
  subst hu
  have e0 := hilo hw
  have e1 := hilo1 (w + 1)
  have n1 := b8hi (w + 1)
  have m1 : a241 s w = ⟨s.r0, s.r1, s.r4, s.r3, s.r4, s.r5, s.r7, s.fs, s.fz, s.fx, s.fp, s.fc, s.sp, 1, s.ie, false⟩ := by kernel_rfl
  have m2 : a242 s w = ⟨s.r0, s.r1, w8 w, s.r3, s.r4, s.r5, s.r7, s.fs, s.fz, s.fx, s.fp, s.fc, s.sp, 3, s.ie, false⟩ := by kernel_rfl
  have m3 : a243 s w = ⟨s.r0, s.r1, w8 w, s.r3, w8 (w.fdiv 256), w8 w, s.r7, s.fs, s.fz, s.fx, s.fp, s.fc, s.sp, 6, s.ie, false⟩ := by kernel_rfl
  have m4 : a244 s w = ⟨s.r0, s.r1, w8 w, s.r3, (256 * w8 (w.fdiv 256) + w8 w + 1) % 65536 / 256, (256 * w8 (w.fdiv 256) + w8 w + 1) % 256, s.r7, s.fs, s.fz, s.fx, s.fp, s.fc, s.sp, 7, s.ie, false⟩ := by kernel_rfl
  have m5 : a245 s w = ⟨s.r0, s.r1, (256 * w8 (w.fdiv 256) + w8 w + 1) % 65536 / 256, (256 * w8 (w.fdiv 256) + w8 w + 1) % 256, w8 w, s.r3, s.r7, s.fs, s.fz, s.fx, s.fp, s.fc, s.sp, 8, s.ie, false⟩ := by kernel_rfl
  have g2 : Emvi2.grd (a241 s w) (g8 2 4 w) = inb (w8 w) := by kernel_rfl
  have g3 : Elxi2.grd (a242 s w) (g8 2 4 w) = (inb (w8 w) && inb (w8 (w.fdiv 256))) := by kernel_rfl
  have g4 : Einx2.grd (a243 s w) (g8 2 4 w) = (inb (w8 (w.fdiv 256)) && inb (w8 w)) := by kernel_rfl
  rw [g2, g3, g4, m1, m2, m3, m4, m5, e0]
  simp [t8, isMem_ok, neM, prM, eqF, Exchg, mOf, pc0, *]
theorem z8_24 (hs : s.Ok) (hw : B16 w) : MWp Try.prog (st8 (pc0 s) 2 4 w (g8 2 4 w) (l8 2 4 w)) (fun u _ => u = .bool true) :=
  MWp.out (cx8_ok (by simp [Emov24_ok, Emvi2_ok, Elxi2_ok, Einx2_ok, Exchg_ok])) 3000 _ (x8_24 s w) (y8_24 s w hs hw _ rfl) (fun _ => rfl)
end
section
variable (s : Sv) (w : Int)
def a251 : Mc := Emov25.mf (mOf (pc0 s)) (g8 2 5 w)
def a252 : Mc := Emvi2.mf (a251 s w) (g8 2 5 w)
def a253 : Mc := Elxi2.mf (a252 s w) (g8 2 5 w)
def a254 : Mc := Einx2.mf (a253 s w) (g8 2 5 w)
def a255 : Mc := Exchg.mf (a254 s w) (g8 2 5 w)
set_option maxRecDepth 100000 in
theorem x8_25 : (Ly.run (cx8 [Emov25, Emvi2, Elxi2, Einx2, Exchg]) 3000 [(4, true), (10, false), (3, true), (2, true), (8, false), (2, true), (3, true), (14, true), (4, true), (36, true), (5, true), (10, true), (4, true), (15, true), (15, true), (10, true)] (st8 (pc0 s) 2 5 w (g8 2 5 w) (l8 2 5 w))).out? = some (t8 (mOf (pc0 s)) (a251 s w) (a252 s w) (a253 s w) (a254 s w) (a255 s w) { mOf (pc0 s) with r2 := s.r5 } { mOf (pc0 s) with r2 := w8 w } (g8 2 5 w) w 2 (Emvi2.grd (a251 s w) (g8 2 5 w)) (Elxi2.grd (a252 s w) (g8 2 5 w)) (Einx2.grd (a253 s w) (g8 2 5 w)) (Exchg.grd (a254 s w) (g8 2 5 w)), .bool true) := by kernel_rfl
theorem y8_25 (hs : s.Ok) (hw : B16 w) (u : List (Bool × Bool)) (hu : u = t8 (mOf (pc0 s)) (a251 s w) (a252 s w) (a253 s w) (a254 s w) (a255 s w) { mOf (pc0 s) with r2 := s.r5 } { mOf (pc0 s) with r2 := w8 w } (g8 2 5 w) w 2 (Emvi2.grd (a251 s w) (g8 2 5 w)) (Elxi2.grd (a252 s w) (g8 2 5 w)) (Einx2.grd (a253 s w) (g8 2 5 w)) (Exchg.grd (a254 s w) (g8 2 5 w))) : trusted u := by
  obtain ⟨⟨q0, q1, q2, q3, q4, q5, q6, q7⟩, qs, qp⟩ := hs
  subst hu
  have e0 := hilo hw
  have e1 := hilo1 (w + 1)
  have n1 := b8hi (w + 1)
  have m1 : a251 s w = ⟨s.r0, s.r1, s.r5, s.r3, s.r4, s.r5, s.r7, s.fs, s.fz, s.fx, s.fp, s.fc, s.sp, 1, s.ie, false⟩ := by kernel_rfl
  have m2 : a252 s w = ⟨s.r0, s.r1, w8 w, s.r3, s.r4, s.r5, s.r7, s.fs, s.fz, s.fx, s.fp, s.fc, s.sp, 3, s.ie, false⟩ := by kernel_rfl
  have m3 : a253 s w = ⟨s.r0, s.r1, w8 w, s.r3, w8 (w.fdiv 256), w8 w, s.r7, s.fs, s.fz, s.fx, s.fp, s.fc, s.sp, 6, s.ie, false⟩ := by kernel_rfl
  have m4 : a254 s w = ⟨s.r0, s.r1, w8 w, s.r3, (256 * w8 (w.fdiv 256) + w8 w + 1) % 65536 / 256, (256 * w8 (w.fdiv 256) + w8 w + 1) % 256, s.r7, s.fs, s.fz, s.fx, s.fp, s.fc, s.sp, 7, s.ie, false⟩ := by kernel_rfl
  have m5 : a255 s w = ⟨s.r0, s.r1, (256 * w8 (w.fdiv 256) + w8 w + 1) % 65536 / 256, (256 * w8 (w.fdiv 256) + w8 w + 1) % 256, w8 w, s.r3, s.r7, s.fs, s.fz, s.fx, s.fp, s.fc, s.sp, 8, s.ie, false⟩ := by kernel_rfl
  have g2 : Emvi2.grd (a251 s w) (g8 2 5 w) = inb (w8 w) := by kernel_rfl
  have g3 : Elxi2.grd (a252 s w) (g8 2 5 w) = (inb (w8 w) && inb (w8 (w.fdiv 256))) := by kernel_rfl
  have g4 : Einx2.grd (a253 s w) (g8 2 5 w) = (inb (w8 (w.fdiv 256)) && inb (w8 w)) := by kernel_rfl
  rw [g2, g3, g4, m1, m2, m3, m4, m5, e0]
  simp [t8, isMem_ok, neM, prM, eqF, Exchg, mOf, pc0, *]
theorem z8_25 (hs : s.Ok) (hw : B16 w) : MWp Try.prog (st8 (pc0 s) 2 5 w (g8 2 5 w) (l8 2 5 w)) (fun u _ => u = .bool true) :=
  MWp.out (cx8_ok (by simp [Emov25_ok, Emvi2_ok, Elxi2_ok, Einx2_ok, Exchg_ok])) 3000 _ (x8_25 s w) (y8_25 s w hs hw _ rfl) (fun _ => rfl)
end
section
variable (s : Sv) (w : Int)
def a271 : Mc := Emov27.mf (mOf (pc0 s)) (g8 2 7 w)
def a272 : Mc := Emvi2.mf (a271 s w) (g8 2 7 w)
def a273 : Mc := Elxi2.mf (a272 s w) (g8 2 7 w)
def a274 : Mc := Einx2.mf (a273 s w) (g8 2 7 w)
def a275 : Mc := Exchg.mf (a274 s w) (g8 2 7 w)
set_option maxRecDepth 100000 in
theorem x8_27 : (Ly.run (cx8 [Emov27, Emvi2, Elxi2, Einx2, Exchg]) 3000 [(4, true), (10, false), (3, true), (2, true), (8, false), (2, true), (3, true), (14, true), (4, true), (36, true), (5, true), (10, true), (4, true), (15, true), (15, true), (10, true)] (st8 (pc0 s) 2 7 w (g8 2 7 w) (l8 2 7 w))).out? = some (t8 (mOf (pc0 s)) (a271 s w) (a272 s w) (a273 s w) (a274 s w) (a275 s w) { mOf (pc0 s) with r2 := s.r7 } { mOf (pc0 s) with r2 := w8 w } (g8 2 7 w) w 2 (Emvi2.grd (a271 s w) (g8 2 7 w)) (Elxi2.grd (a272 s w) (g8 2 7 w)) (Einx2.grd (a273 s w) (g8 2 7 w)) (Exchg.grd (a274 s w) (g8 2 7 w)), .bool true) := by kernel_rfl
theorem y8_27 (hs : s.Ok) (hw : B16 w) (u : List (Bool × Bool)) (hu : u = t8 (mOf (pc0 s)) (a271 s w) (a272 s w) (a273 s w) (a274 s w) (a275 s w) { mOf (pc0 s) with r2 := s.r7 } { mOf (pc0 s) with r2 := w8 w } (g8 2 7 w) w 2 (Emvi2.grd (a271 s w) (g8 2 7 w)) (Elxi2.grd (a272 s w) (g8 2 7 w)) (Einx2.grd (a273 s w) (g8 2 7 w)) (Exchg.grd (a274 s w) (g8 2 7 w))) : trusted u := by
  obtain ⟨⟨q0, q1, q2, q3, q4, q5, q6, q7⟩, qs, qp⟩ := hs
  subst hu
  have e0 := hilo hw
  have e1 := hilo1 (w + 1)
  have n1 := b8hi (w + 1)
  have m1 : a271 s w = ⟨s.r0, s.r1, s.r7, s.r3, s.r4, s.r5, s.r7, s.fs, s.fz, s.fx, s.fp, s.fc, s.sp, 1, s.ie, false⟩ := by kernel_rfl
  have m2 : a272 s w = ⟨s.r0, s.r1, w8 w, s.r3, s.r4, s.r5, s.r7, s.fs, s.fz, s.fx, s.fp, s.fc, s.sp, 3, s.ie, false⟩ := by kernel_rfl
  have m3 : a273 s w = ⟨s.r0, s.r1, w8 w, s.r3, w8 (w.fdiv 256), w8 w, s.r7, s.fs, s.fz, s.fx, s.fp, s.fc, s.sp, 6, s.ie, false⟩ := by kernel_rfl
  have m4 : a274 s w = ⟨s.r0, s.r1, w8 w, s.r3, (256 * w8 (w.fdiv 256) + w8 w + 1) % 65536 / 256, (256 * w8 (w.fdiv 256) + w8 w + 1) % 256, s.r7, s.fs, s.fz, s.fx, s.fp, s.fc, s.sp, 7, s.ie, false⟩ := by kernel_rfl
  have m5 : a275 s w = ⟨s.r0, s.r1, (256 * w8 (w.fdiv 256) + w8 w + 1) % 65536 / 256, (256 * w8 (w.fdiv 256) + w8 w + 1) % 256, w8 w, s.r3, s.r7, s.fs, s.fz, s.fx, s.fp, s.fc, s.sp, 8, s.ie, false⟩ := by kernel_rfl
  have g2 : Emvi2.grd (a271 s w) (g8 2 7 w) = inb (w8 w) := by kernel_rfl
  have g3 : Elxi2.grd (a272 s w) (g8 2 7 w) = (inb (w8 w) && inb (w8 (w.fdiv 256))) := by kernel_rfl
  have g4 : Einx2.grd (a273 s w) (g8 2 7 w) = (inb (w8 (w.fdiv 256)) && inb (w8 w)) := by kernel_rfl
  rw [g2, g3, g4, m1, m2, m3, m4, m5, e0]
  simp [t8, isMem_ok, neM, prM, eqF, Exchg, mOf, pc0, *]
theorem z8_27 (hs : s.Ok) (hw : B16 w) : MWp Try.prog (st8 (pc0 s) 2 7 w (g8 2 7 w) (l8 2 7 w)) (fun u _ => u = .bool true) :=
  MWp.out (cx8_ok (by simp [Emov27_ok, Emvi2_ok, Elxi2_ok, Einx2_ok, Exchg_ok])) 3000 _ (x8_27 s w) (y8_27 s w hs hw _ rfl) (fun _ => rfl)
end
theorem z8d2 (r : Int) (h3 : 0 ≤ r) (h4 : r ≤ 7) (hr6 : r ≠ 6) (s : Sv) (w : Int) (hs : s.Ok) (hw : B16 w) : MWp Try.prog (st8 (pc0 s) 2 r w (g8 2 r w) (l8 2 r w)) (fun u _ => u = .bool true) := by
  have : r = 0 ∨ r = 1 ∨ r = 2 ∨ r = 3 ∨ r = 4 ∨ r = 5 ∨ r = 7 := by omega
  rcases this with rfl | rfl | rfl | rfl | rfl | rfl | rfl
  · exact z8_20 s w hs hw
  · exact z8_21 s w hs hw
  · exact z8_22 s w hs hw
  · exact z8_23 s w hs hw
  · exact z8_24 s w hs hw
  · exact z8_25 s w hs hw
  · exact z8_27 s w hs hw
end Go.Proofs.Ytpggoincnebfnaa
namespace Go.Proofs.Ytpggoincnebfnaa
open Go Go.Ly Go.RowKit
section
variable (s : Sv) (w : Int)
def a301 : Mc := Emov30.mf (mOf (pc0 s)) (g8 3 0 w)
def a302 : Mc := Emvi3.mf (a301 s w) (g8 3 0 w)
def a303 : Mc := Elxi3.mf (a302 s w) (g8 3 0 w)
def a304 : Mc := Einx3.mf (a303 s w) (g8 3 0 w)
def a305 : Mc := Exchg.mf (a304 s w) (g8 3 0 w)
set_option maxRecDepth 100000 in
theorem x8_30 : (Ly.run (cx8 [Emov30, Emvi3, Elxi3, Einx3, Exchg]) 3000 [(4, true), (10, false), (3, true), (2, true), (8, false), (2, true), (3, true), (11, true), (4, true), (33, true), (5, true), (10, true), (4, true), (15, true), (15, true), (10, true)] (st8 (pc0 s) 3 0 w (g8 3 0 w) (l8 3 0 w))).out? = some (t8 (mOf (pc0 s)) (a301 s w) (a302 s w) (a303 s w) (a304 s w) (a305 s w) { mOf (pc0 s) with r3 := s.r0 } { mOf (pc0 s) with r3 := w8 w } (g8 3 0 w) w 3 (Emvi3.grd (a301 s w) (g8 3 0 w)) (Elxi3.grd (a302 s w) (g8 3 0 w)) (Einx3.grd (a303 s w) (g8 3 0 w)) (Exchg.grd (a304 s w) (g8 3 0 w)), .bool true) := by kernel_rfl
theorem y8_30 (hs : s.Ok) (hw : B16 w) (u : List (Bool × Bool)) (hu : u = t8 (mOf (pc0 s)) (a301 s w) (a302 s w) (a303 s w) (a304 s w) (a305 s w) { mOf (pc0 s) with r3 := s.r0 } { mOf (pc0 s) with r3 := w8 w } (g8 3 0 w) w 3 (Emvi3.grd (a301 s w) (g8 3 0 w)) (Elxi3.grd (a302 s w) (g8 3 0 w)) (Einx3.grd (a303 s w) (g8 3 0 w)) (Exchg.grd (a304 s w) (g8 3 0 w))) : trusted u := by
  obtain ⟨⟨q0, q1, q2, q3, q4, q5, q6, q7⟩, qs, qp⟩ := hs
  subst hu
  have e0 := hilo hw
  have e1 := hilo1 (w + 1)
  have n1 := b8hi (w + 1)
  have m1 : a301 s w = ⟨s.r0, s.r1, s.r2, s.r0, s.r4, s.r5, s.r7, s.fs, s.fz, s.fx, s.fp, s.fc, s.sp, 1, s.ie, false⟩ := by kernel_rfl
  have m2 : a302 s w = ⟨s.r0, s.r1, s.r2, w8 w, s.r4, s.r5, s.r7, s.fs, s.fz, s.fx, s.fp, s.fc, s.sp, 3, s.ie, false⟩ := by kernel_rfl
  have m3 : a303 s w = ⟨s.r0, s.r1, s.r2, w8 w, s.r4, s.r5, s.r7, s.fs, s.fz, s.fx, s.fp, s.fc, 256 * w8 (w.fdiv 256) + w8 w, 6, s.ie, false⟩ := by kernel_rfl
  have m4 : a304 s w = ⟨s.r0, s.r1, s.r2, w8 w, s.r4, s.r5, s.r7, s.fs, s.fz, s.fx, s.fp, s.fc, w16 (256 * w8 (w.fdiv 256) + w8 w + 1), 7, s.ie, false⟩ := by kernel_rfl
  have m5 : a305 s w = ⟨s.r0, s.r1, s.r4, s.r5, s.r2, w8 w, s.r7, s.fs, s.fz, s.fx, s.fp, s.fc, w16 (256 * w8 (w.fdiv 256) + w8 w + 1), 8, s.ie, false⟩ := by kernel_rfl
  have g2 : Emvi3.grd (a301 s w) (g8 3 0 w) = inb (w8 w) := by kernel_rfl
  have g3 : Elxi3.grd (a302 s w) (g8 3 0 w) = (inb (w8 w) && inb (w8 (w.fdiv 256))) := by kernel_rfl
  have g4 : Einx3.grd (a303 s w) (g8 3 0 w) = inw (256 * w8 (w.fdiv 256) + w8 w) := by kernel_rfl
  rw [g2, g3, g4, m1, m2, m3, m4, m5, e0]
  simp [t8, isMem_ok, neM, prM, eqF, Exchg, mOf, pc0, *]
theorem z8_30 (hs : s.Ok) (hw : B16 w) : MWp Try.prog (st8 (pc0 s) 3 0 w (g8 3 0 w) (l8 3 0 w)) (fun u _ => u = .bool true) :=
  MWp.out (cx8_ok (by simp [Emov30_ok, Emvi3_ok, Elxi3_ok, Einx3_ok, Exchg_ok])) 3000 _ (x8_30 s w) (y8_30 s w hs hw _ rfl) (fun _ => rfl)
end
section
variable (s : Sv) (w : Int)
def a311 : Mc := Emov31.mf (mOf (pc0 s)) (g8 3 1 w)
def a312 : Mc := Emvi3.mf (a311 s w) (g8 3 1 w)
def a313 : Mc := Elxi3.mf (a312 s w) (g8 3 1 w)
def a314 : Mc := Einx3.mf (a313 s w) (g8 3 1 w)
def a315 : Mc := Exchg.mf (a314 s w) (g8 3 1 w)
set_option maxRecDepth 100000 in
theorem x8_31 : (Ly.run (cx8 [Emov31, Emvi3, Elxi3, Einx3, Exchg]) 3000 [(4, true), (10, false), (3, true), (2, true), (8, false), (2, true), (3, true), (11, true), (4, true), (33, true), (5, true), (10, true), (4, true), (15, true), (15, true), (10, true)] (st8 (pc0 s) 3 1 w (g8 3 1 w) (l8 3 1 w))).out? = some (t8 (mOf (pc0 s)) (a311 s w) (a312 s w) (a313 s w) (a314 s w) (a315 s w) { mOf (pc0 s) with r3 := s.r1 } { mOf (pc0 s) with r3 := w8 w } (g8 3 1 w) w 3 (Emvi3.grd (a311 s w) (g8 3 1 w)) (Elxi3.grd (a312 s w) (g8 3 1 w)) (Einx3.grd (a313 s w) (g8 3 1 w)) (Exchg.grd (a314 s w) (g8 3 1 w)), .bool true) := by kernel_rfl
theorem y8_31 (hs : s.Ok) (hw : B16 w) (u : List (Bool × Bool)) (hu : u = t8 (mOf (pc0 s)) (a311 s w) (a312 s w) (a313 s w) (a314 s w) (a315 s w) { mOf (pc0 s) with r3 := s.r1 } { mOf (pc0 s) with r3 := w8 w } (g8 3 1 w) w 3 (Emvi3.grd (a311 s w) (g8 3 1 w)) (Elxi3.grd (a312 s w) (g8 3 1 w)) (Einx3.grd (a313 s w) (g8 3 1 w)) (Exchg.grd (a314 s w) (g8 3 1 w))) : trusted u := by
  obtain ⟨⟨q0, q1, q2, q3, q4, q5, q6, q7⟩, qs, qp⟩ := hs
  subst hu
  have e0 := hilo hw
  have e1 := hilo1 (w + 1)
  have n1 := b8hi (w + 1)
  have m1 : a311 s w = ⟨s.r0, s.r1, s.r2, s.r1, s.r4, s.r5, s.r7, s.fs, s.fz, s.fx, s.fp, s.fc, s.sp, 1, s.ie, false⟩ := by kernel_rfl
  have m2 : a312 s w = ⟨s.r0, s.r1, s.r2, w8 w, s.r4, s.r5, s.r7, s.fs, s.fz, s.fx, s.fp, s.fc, s.sp, 3, s.ie, false⟩ := by kernel_rfl
  have m3 : a313 s w = ⟨s.r0, s.r1, s.r2, w8 w, s.r4, s.r5, s.r7, s.fs, s.fz, s.fx, s.fp, s.fc, 256 * w8 (w.fdiv 256) + w8 w, 6, s.ie, false⟩ := by kernel_rfl
  have m4 : a314 s w = ⟨s.r0, s.r1, s.r2, w8 w, s.r4, s.r5, s.r7, s.fs, s.fz, s.fx, s.fp, s.fc, w16 (256 * w8 (w.fdiv 256) + w8 w + 1), 7, s.ie, false⟩ := by kernel_rfl
  have m5 : a315 s w = ⟨s.r0, s.r1, s.r4, s.r5, s.r2, w8 w, s.r7, s.fs, s.fz, s.fx, s.fp, s.fc, w16 (256 * w8 (w.fdiv 256) + w8 w + 1), 8, s.ie, false⟩ := by kernel_rfl
  have g2 : Emvi3.grd (a311 s w) (g8 3 1 w) = inb (w8 w) := by kernel_rfl
  have g3 : Elxi3.grd (a312 s w) (g8 3 1 w) = (inb (w8 w) && inb (w8 (w.fdiv 256))) := by kernel_rfl
  have g4 : Einx3.grd (a313 s w) (g8 3 1 w) = inw (256 * w8 (w.fdiv 256) + w8 w) := by kernel_rfl
  rw [g2, g3, g4, m1, m2, m3, m4, m5, e0]
  simp [t8, isMem_ok, neM, prM, eqF, Exchg, mOf, pc0, *]
theorem z8_31 (hs : s.Ok) (hw : B16 w) : MWp Try.prog (st8 (pc0 s) 3 1 w (g8 3 1 w) (l8 3 1 w)) (fun u _ => u = .bool true) :=
  MWp.out (cx8_ok (by simp [Emov31_ok, Emvi3_ok, Elxi3_ok, Einx3_ok, Exchg_ok])) 3000 _ (x8_31 s w) (y8_31 s w hs hw _ rfl) (fun _ => rfl)
end
section
variable (s : Sv) (w : Int)
def a321 : Mc := Emov32.mf (mOf (pc0 s)) (g8 3 2 w)
def a322 : Mc := Emvi3.mf (a321 s w) (g8 3 2 w)
def a323 : Mc := Elxi3.mf (a322 s w) (g8 3 2 w)
def a324 : Mc := Einx3.mf (a323 s w) (g8 3 2 w)
def a325 : Mc := Exchg.mf (a324 s w) (g8 3 2 w)
set_option maxRecDepth 100000 in
theorem x8_32 : (Ly.run (cx8 [Emov32, Emvi3, Elxi3, Einx3, Exchg]) 3000 [(4, true), (10, false), (3, true), (2, true), (8, false), (2, true), (3, true), (11, true), (4, true), (33, true), (5, true), (10, true), (4, true), (15, true), (15, true), (10, true)] (st8 (pc0 s) 3 2 w (g8 3 2 w) (l8 3 2 w))).out? = some (t8 (mOf (pc0 s)) (a321 s w) (a322 s w) (a323 s w) (a324 s w) (a325 s w) { mOf (pc0 s) with r3 := s.r2 } { mOf (pc0 s) with r3 := w8 w } (g8 3 2 w) w 3 (Emvi3.grd (a321 s w) (g8 3 2 w)) (Elxi3.grd (a322 s w) (g8 3 2 w)) (Einx3.grd (a323 s w) (g8 3 2 w)) (Exchg.grd (a324 s w) (g8 3 2 w)), .bool true) := by kernel_rfl
theorem y8_32 (hs : s.Ok) (hw : B16 w) (u : List (Bool × Bool)) (hu : u = t8 (mOf (pc0 s)) (a321 s w) (a322 s w) (a323 s w) (a324 s w) (a325 s w) { mOf (pc0 s) with r3 := s.r2 } { mOf (pc0 s) with r3 := w8 w } (g8 3 2 w) w 3 (Emvi3.grd (a321 s w) (g8 3 2 w)) (Elxi3.grd (a322 s w) (g8 3 2 w)) (Einx3.grd (a323 s w) (g8 3 2 w)) (Exchg.grd (a324 s w) (g8 3 2 w))) : trusted u := by
  obtain ⟨⟨q0, q1, q2, q3, q4, q5, q6, q7⟩, qs, qp⟩ := hs
  subst hu
  have e0 := hilo hw
  have e1 := hilo1 (w + 1)
  have n1 := b8hi (w + 1)
  have m1 : a321 s w = ⟨s.r0, s.r1, s.r2, s.r2, s.r4, s.r5, s.r7, s.fs, s.fz, s.fx, s.fp, s.fc, s.sp, 1, s.ie, false⟩ := by kernel_rfl
  have m2 : a322 s w = ⟨s.r0, s.r1, s.r2, w8 w, s.r4, s.r5, s.r7, s.fs, s.fz, s.fx, s.fp, s.fc, s.sp, 3, s.ie, false⟩ := by kernel_rfl
  have m3 : a323 s w = ⟨s.r0, s.r1, s.r2, w8 w, s.r4, s.r5, s.r7, s.fs, s.fz, s.fx, s.fp, s.fc, 256 * w8 (w.fdiv 256) + w8 w, 6, s.ie, false⟩ := by kernel_rfl
  have m4 : a324 s w = ⟨s.r0, s.r1, s.r2, w8 w, s.r4, s.r5, s.r7, s.fs, s.fz, s.fx, s.fp, s.fc, w16 (256 * w8 (w.fdiv 256) + w8 w + 1), 7, s.ie, false⟩ := by kernel_rfl
  have m5 : a325 s w = ⟨s.r0, s.r1, s.r4, s.r5, s.r2, w8 w, s.r7, s.fs, s.fz, s.fx, s.fp, s.fc, w16 (256 * w8 (w.fdiv 256) + w8 w + 1), 8, s.ie, false⟩ := by kernel_rfl
  have g2 : Emvi3.grd (a321 s w) (g8 3 2 w) = inb (w8 w) := by kernel_rfl
  have g3 : Elxi3.grd (a322 s w) (g8 3 2 w) = (inb (w8 w) && inb (w8 (w.fdiv 256))) := by kernel_rfl
  have g4 : Einx3.grd (a323 s w) (g8 3 2 w) = inw (256 * w8 (w.fdiv 256) + w8 w) := by kernel_rfl
  rw [g2, g3, g4, m1, m2, m3, m4, m5, e0]
  simp [t8, isMem_ok, neM, prM, eqF, Exchg, mOf, pc0, *]
theorem z8_32 (hs : s.Ok) (hw : B16 w) : MWp Try.prog (st8 (pc0 s) 3 2 w (g8 3 2 w) (l8 3 2 w)) (fun u _ => u = .bool true) :=
  MWp.out (cx8_ok (by simp [Emov32_ok, Emvi3_ok, Elxi3_ok, Einx3_ok, Exchg_ok])) 3000 _ (x8_32 s w) (y8_32 s w hs hw _ rfl) (fun _ => rfl)
end
section
variable (s : Sv) (w : Int)
def a331 : Mc := Emov33.mf (mOf (pc0 s)) (g8 3 3 w)
def a332 : Mc := Emvi3.mf (a331 s w) (g8 3 3 w)
def a333 : Mc := Elxi3.mf (a332 s w) (g8 3 3 w)
def a334 : Mc := Einx3.mf (a333 s w) (g8 3 3 w)
def a335 : Mc := Exchg.mf (a334 s w) (g8 3 3 w)
set_option maxRecDepth 100000 in
theorem x8_33 : (Ly.run (cx8 [Emov33, Emvi3, Elxi3, Einx3, Exchg]) 3000 [(4, true), (10, false), (3, true), (2, true), (8, false), (2, true), (3, true), (11, true), (4, true), (33, true), (5, true), (10, true), (4, true), (15, true), (15, true), (10, true)] (st8 (pc0 s) 3 3 w (g8 3 3 w) (l8 3 3 w))).out? = some (t8 (mOf (pc0 s)) (a331 s w) (a332 s w) (a333 s w) (a334 s w) (a335 s w) { mOf (pc0 s) with r3 := s.r3 } { mOf (pc0 s) with r3 := w8 w } (g8 3 3 w) w 3 (Emvi3.grd (a331 s w) (g8 3 3 w)) (Elxi3.grd (a332 s w) (g8 3 3 w)) (Einx3.grd (a333 s w) (g8 3 3 w)) (Exchg.grd (a334 s w) (g8 3 3 w)), .bool true) := by kernel_rfl
theorem y8_33 (hs : s.Ok) (hw : B16 w) (u : List (Bool × Bool)) (hu : u = t8 (mOf (pc0 s)) (a331 s w) (a332 s w) (a333 s w) (a334 s w) (a335 s w) { mOf (pc0 s) with r3 := s.r3 } { mOf (pc0 s) with r3 := w8 w } (g8 3 3 w) w 3 (Emvi3.grd (a331 s w) (g8 3 3 w)) (Elxi3.grd (a332 s w) (g8 3 3 w)) (Einx3.grd (a333 s w) (g8 3 3 w)) (Exchg.grd (a334 s w) (g8 3 3 w))) : trusted u := by
  obtain ⟨⟨q0, q1, q2, q3, q4, q5, q6, q7⟩, qs, qp⟩ := hs
  subst hu
  have e0 := hilo hw
  have e1 := hilo1 (w + 1)
  have n1 := b8hi (w + 1)
  have m1 : a331 s w = ⟨s.r0, s.r1, s.r2, s.r3, s.r4, s.r5, s.r7, s.fs, s.fz, s.fx, s.fp, s.fc, s.sp, 1, s.ie, false⟩ := by kernel_rfl
  have m2 : a332 s w = ⟨s.r0, s.r1, s.r2, w8 w, s.r4, s.r5, s.r7, s.fs, s.fz, s.fx, s.fp, s.fc, s.sp, 3, s.ie, false⟩ := by kernel_rfl
  have m3 : a333 s w = ⟨s.r0, s.r1, s.r2, w8 w, s.r4, s.r5, s.r7, s.fs, s.fz, s.fx, s.fp, s.fc, 256 * w8 (w.fdiv 256) + w8 w, 6, s.ie, false⟩ := by kernel_rfl
  have m4 : a334 s w = ⟨s.r0, s.r1, s.r2, w8 w, s.r4, s.r5, s.r7, s.fs, s.fz, s.fx, s.fp, s.fc, w16 (256 * w8 (w.fdiv 256) + w8 w + 1), 7, s.ie, false⟩ := by kernel_rfl
  have m5 : a335 s w = ⟨s.r0, s.r1, s.r4, s.r5, s.r2, w8 w, s.r7, s.fs, s.fz, s.fx, s.fp, s.fc, w16 (256 * w8 (w.fdiv 256) + w8 w + 1), 8, s.ie, false⟩ := by kernel_rfl
  have g2 : Emvi3.grd (a331 s w) (g8 3 3 w) = inb (w8 w) := by kernel_rfl
  have g3 : Elxi3.grd (a332 s w) (g8 3 3 w) = (inb (w8 w) && inb (w8 (w.fdiv 256))) := by kernel_rfl
  have g4 : Einx3.grd (a333 s w) (g8 3 3 w) = inw (256 * w8 (w.fdiv 256) + w8 w) := by kernel_rfl
  rw [g2, g3, g4, m1, m2, m3, m4, m5, e0]
  simp [t8, isMem_ok, neM, prM, eqF, Exchg, mOf, pc0, *]
theorem z8_33 (hs : s.Ok) (hw : B16 w) : MWp Try.prog (st8 (pc0 s) 3 3 w (g8 3 3 w) (l8 3 3 w)) (fun u _ => u = .bool true) :=
  MWp.out (cx8_ok (by simp [Emov33_ok, Emvi3_ok, Elxi3_ok, Einx3_ok, Exchg_ok])) 3000 _ (x8_33 s w) (y8_33 s w hs hw _ rfl) (fun _ => rfl)
end
section
variable (s : Sv) (w : Int)
def a341 : Mc := Emov34.mf (mOf (pc0 s)) (g8 3 4 w)
def a342 : Mc := Emvi3.mf (a341 s w) (g8 3 4 w)
def a343 : Mc := Elxi3.mf (a342 s w) (g8 3 4 w)
def a344 : Mc := Einx3.mf (a343 s w) (g8 3 4 w)
def a345 : Mc := Exchg.mf (a344 s w) (g8 3 4 w)
set_option maxRecDepth 100000 in
theorem x8_34 : (Ly.run (cx8 [Emov34, Emvi3, Elxi3, Einx3, Exchg]) 3000 [(4, true), (10, false), (3, true), (2, true), (8, false), (2, true), (3, true), (11, true), (4, true), (33, true), (5, true), (10, true), (4, true), (15, true), (15, true), (10, true)] (st8 (pc0 s) 3 4 w (g8 3 4 w) (l8 3 4 w))).out? = some (t8 (mOf (pc0 s)) (a341 s w) (a342 s w) (a343 s w) (a344 s w) (a345 s w) { mOf (pc0 s) with r3 := s.r4 } { mOf (pc0 s) with r3 := w8 w } (g8 3 4 w) w 3 (Emvi3.grd (a341 s w) (g8 3 4 w)) (Elxi3.grd (a342 s w) (g8 3 4 w)) (Einx3.grd (a343 s w) (g8 3 4 w)) (Exchg.grd (a344 s w) (g8 3 4 w)), .bool true) := by kernel_rfl
theorem y8_34 (hs : s.Ok) (hw : B16 w) (u : List (Bool × Bool)) (hu : u = t8 (mOf (pc0 s)) (a341 s w) (a342 s w) (a343 s w) (a344 s w) (a345 s w) { mOf (pc0 s) with r3 := s.r4 } { mOf (pc0 s) with r3 := w8 w } (g8 3 4 w) w 3 (Emvi3.grd (a341 s w) (g8 3 4 w)) (Elxi3.grd (a342 s w) (g8 3 4 w)) (Einx3.grd (a343 s w) (g8 3 4 w)) (Exchg.grd (a344 s w) (g8 3 4 w))) : trusted u := by
  obtain ⟨⟨q0, q1, q2, q3, q4, q5, q6, q7⟩, qs, qp⟩ := hs
  subst hu
  have e0 := hilo hw
  have e1 := hilo1 (w + 1)
  have n1 := b8hi (w + 1)
  have m1 : a341 s w = ⟨s.r0, s.r1, s.r2, s.r4, s.r4, s.r5, s.r7, s.fs, s.fz, s.fx, s.fp, s.fc, s.sp, 1, s.ie, false⟩ := by kernel_rfl
  have m2 : a342 s w = ⟨s.r0, s.r1, s.r2, w8 w, s.r4, s.r5, s.r7, s.fs, s.fz, s.fx, s.fp, s.fc, s.sp, 3, s.ie, false⟩ := by kernel_rfl
  have m3 : a343 s w = ⟨s.r0, s.r1, s.r2, w8 w, s.r4, s.r5, s.r7, s.fs, s.fz, s.fx, s.fp, s.fc, 256 * w8 (w.fdiv 256) + w8 w, 6, s.ie, false⟩ := by kernel_rfl
  have m4 : a344 s w = ⟨s.r0, s.r1, s.r2, w8 w, s.r4, s.r5, s.r7, s.fs, s.fz, s.fx, s.fp, s.fc, w16 (256 * w8 (w.fdiv 256) + w8 w + 1), 7, s.ie, false⟩ := by kernel_rfl
  have m5 : a345 s w = ⟨s.r0, s.r1, s.r4, s.r5, s.r2, w8 w, s.r7, s.fs, s.fz, s.fx, s.fp, s.fc, w16 (256 * w8 (w.fdiv 256) + w8 w + 1), 8, s.ie, false⟩ := by kernel_rfl
  have g2 : Emvi3.grd (a341 s w) (g8 3 4 w) = inb (w8 w) := by kernel_rfl
  have g3 : Elxi3.grd (a342 s w) (g8 3 4 w) = (inb (w8 w) && inb (w8 (w.fdiv 256))) := by kernel_rfl
  have g4 : Einx3.grd (a343 s w) (g8 3 4 w) = inw (256 * w8 (w.fdiv 256) + w8 w) := by kernel_rfl
  rw [g2, g3, g4, m1, m2, m3, m4, m5, e0]
  simp [t8, isMem_ok, neM, prM, eqF, Exchg, mOf, pc0, *]
theorem z8_34 (hs : s.Ok) (hw : B16 w) : MWp Try.prog (st8 (pc0 s) 3 4 w (g8 3 4 w) (l8 3 4 w)) (fun u _ => u = .bool true) :=
  MWp.out (cx8_ok (by simp [Emov34_ok, Emvi3_ok, Elxi3_ok, Einx3_ok, Exchg_ok])) 3000 _ (x8_34 s w) (y8_34 s w hs hw _ rfl) (fun _ => rfl)
end
section
variable (s : Sv) (w : Int)
def a351 : Mc := Emov35.mf (mOf (pc0 s)) (g8 3 5 w)
def a352 : Mc := Emvi3.mf (a351 s w) (g8 3 5 w)
def a353 : Mc := Elxi3.mf (a352 s w) (g8 3 5 w)
def a354 : Mc := Einx3.mf (a353 s w) (g8 3 5 w)
def a355 : Mc := Exchg.mf (a354 s w) (g8 3 5 w)
set_option maxRecDepth 100000 in
theorem x8_35 : (Ly.run (cx8 [Emov35, Emvi3, Elxi3, Einx3, Exchg]) 3000 [(4, true), (10, false), (3, true), (2, true), (8, false), (2, true), (3, true), (11, true), (4, true), (33, true), (5, true), (10, true), (4, true), (15, true), (15, true), (10, true)] (st8 (pc0 s) 3 5 w (g8 3 5 w) (l8 3 5 w))).out? = some (t8 (mOf (pc0 s)) (a351 s w) (a352 s w) (a353 s w) (a354 s w) (a355 s w) { mOf (pc0 s) with r3 := s.r5 } { mOf (pc0 s) with r3 := w8 w } (g8 3 5 w) w 3 (Emvi3.grd (a351 s w) (g8 3 5 w)) (Elxi3.grd (a352 s w) (g8 3 5 w)) (Einx3.grd (a353 s w) (g8 3 5 w)) (Exchg.grd (a354 s w) (g8 3 5 w)), .bool true) := by kernel_rfl
theorem y8_35 (hs : s.Ok) (hw : B16 w) (u : List (Bool × Bool)) (hu : u = t8 (mOf (pc0 s)) (a351 s w) (a352 s w) (a353 s w) (a354 s w) (a355 s w) { mOf (pc0 s) with r3 := s.r5 } { mOf (pc0 s) with r3 := w8 w } (g8 3 5 w) w 3 (Emvi3.grd (a351 s w) (g8 3 5 w)) (Elxi3.grd (a352 s w) (g8 3 5 w)) (Einx3.grd (a353 s w) (g8 3 5 w)) (Exchg.grd (a354 s w) (g8 3 5 w))) : trusted u := by
  obtain ⟨⟨q0, q1, q2, q3, q4, q5, q6, q7⟩, qs, qp⟩ := hs
  subst hu
  have e0 := hilo hw
  have e1 := hilo1 (w + 1)
  have n1 := b8hi (w + 1)
  have m1 : a351 s w = ⟨s.r0, s.r1, s.r2, s.r5, s.r4, s.r5, s.r7, s.fs, s.fz, s.fx, s.fp, s.fc, s.sp, 1, s.ie, false⟩ := by kernel_rfl
  have m2 : a352 s w = ⟨s.r0, s.r1, s.r2, w8 w, s.r4, s.r5, s.r7, s.fs, s.fz, s.fx, s.fp, s.fc, s.sp, 3, s.ie, false⟩ := by kernel_rfl
  have m3 : a353 s w = ⟨s.r0, s.r1, s.r2, w8 w, s.r4, s.r5, s.r7, s.fs, s.fz, s.fx, s.fp, s.fc, 256 * w8 (w.fdiv 256) + w8 w, 6, s.ie, false⟩ := by kernel_rfl
  have m4 : a354 s w = ⟨s.r0, s.r1, s.r2, w8 w, s.r4, s.r5, s.r7, s.fs, s.fz, s.fx, s.fp, s.fc, w16 (256 * w8 (w.fdiv 256) + w8 w + 1), 7, s.ie, false⟩ := by kernel_rfl
  have m5 : a355 s w = ⟨s.r0, s.r1, s.r4, s.r5, s.r2, w8 w, s.r7, s.fs, s.fz, s.fx, s.fp, s.fc, w16 (256 * w8 (w.fdiv 256) + w8 w + 1), 8, s.ie, false⟩ := by kernel_rfl
  have g2 : Emvi3.grd (a351 s w) (g8 3 5 w) = inb (w8 w) := by kernel_rfl
  have g3 : Elxi3.grd (a352 s w) (g8 3 5 w) = (inb (w8 w) && inb (w8 (w.fdiv 256))) := by kernel_rfl
  have g4 : Einx3.grd (a353 s w) (g8 3 5 w) = inw (256 * w8 (w.fdiv 256) + w8 w) := by kernel_rfl
  rw [g2, g3, g4, m1, m2, m3, m4, m5, e0]
  simp [t8, isMem_ok, neM, prM, eqF, Exchg, mOf, pc0, *]
theorem z8_35 (hs : s.Ok) (hw : B16 w) : MWp Try.prog (st8 (pc0 s) 3 5 w (g8 3 5 w) (l8 3 5 w)) (fun u _ => u = .bool true) :=
  MWp.out (cx8_ok (by simp [Emov35_ok, Emvi3_ok, Elxi3_ok, Einx3_ok, Exchg_ok])) 3000 _ (x8_35 s w) (y8_35 s w hs hw _ rfl) (fun _ => rfl)
end
section
variable (s : Sv) (w : Int)
def a371 : Mc := Emov37.mf (mOf (pc0 s)) (g8 3 7 w)
def a372 : Mc := Emvi3.mf (a371 s w) (g8 3 7 w)
def a373 : Mc := Elxi3.mf (a372 s w) (g8 3 7 w)
def a374 : Mc := Einx3.mf (a373 s w) (g8 3 7 w)
def a375 : Mc := Exchg.mf (a374 s w) (g8 3 7 w)
set_option maxRecDepth 100000 in
theorem x8_37 : (Ly.run (cx8 [Emov37, Emvi3, Elxi3, Einx3, Exchg]) 3000 [(4, true), (10, false), (3, true), (2, true), (8, false), (2, true), (3, true), (11, true), (4, true), (33, true), (5, true), (10, true), (4, true), (15, true), (15, true), (10, true)] (st8 (pc0 s) 3 7 w (g8 3 7 w) (l8 3 7 w))).out? = some (t8 (mOf (pc0 s)) (a371 s w) (a372 s w) (a373 s w) (a374 s w) (a375 s w) { mOf (pc0 s) with r3 := s.r7 } { mOf (pc0 s) with r3 := w8 w } (g8 3 7 w) w 3 (Emvi3.grd (a371 s w) (g8 3 7 w)) (Elxi3.grd (a372 s w) (g8 3 7 w)) (Einx3.grd (a373 s w) (g8 3 7 w)) (Exchg.grd (a374 s w) (g8 3 7 w)), .bool true) := by kernel_rfl
theorem y8_37 (hs : s.Ok) (hw : B16 w) (u : List (Bool × Bool)) (hu : u = t8 (mOf (pc0 s)) (a371 s w) (a372 s w) (a373 s w) (a374 s w) (a375 s w) { mOf (pc0 s) with r3 := s.r7 } { mOf (pc0 s) with r3 := w8 w } (g8 3 7 w) w 3 (Emvi3.grd (a371 s w) (g8 3 7 w)) (Elxi3.grd (a372 s w) (g8 3 7 w)) (Einx3.grd (a373 s w) (g8 3 7 w)) (Exchg.grd (a374 s w) (g8 3 7 w))) : trusted u := by
  obtain ⟨⟨q0, q1, q2, q3, q4, q5, q6, q7⟩, qs, qp⟩ := hs
  subst hu
  have e0 := hilo hw
  have e1 := hilo1 (w + 1)
  have n1 := b8hi (w + 1)
  have m1 : a371 s w = ⟨s.r0, s.r1, s.r2, s.r7, s.r4, s.r5, s.r7, s.fs, s.fz, s.fx, s.fp, s.fc, s.sp, 1, s.ie, false⟩ := by kernel_rfl
  have m2 : a372 s w = ⟨s.r0, s.r1, s.r2, w8 w, s.r4, s.r5, s.r7, s.fs, s.fz, s.fx, s.fp, s.fc, s.sp, 3, s.ie, false⟩ := by kernel_rfl
  have m3 : a373 s w = ⟨s.r0, s.r1, s.r2, w8 w, s.r4, s.r5, s.r7, s.fs, s.fz, s.fx, s.fp, s.fc, 256 * w8 (w.fdiv 256) + w8 w, 6, s.ie, false⟩ := by kernel_rfl
  have m4 : a374 s w = ⟨s.r0, s.r1, s.r2, w8 w, s.r4, s.r5, s.r7, s.fs, s.fz, s.fx, s.fp, s.fc, w16 (256 * w8 (w.fdiv 256) + w8 w + 1), 7, s.ie, false⟩ := by kernel_rfl
  have m5 : a375 s w = ⟨s.r0, s.r1, s.r4, s.r5, s.r2, w8 w, s.r7, s.fs, s.fz, s.fx, s.fp, s.fc, w16 (256 * w8 (w.fdiv 256) + w8 w + 1), 8, s.ie, false⟩ := by kernel_rfl
  have g2 : Emvi3.grd (a371 s w) (g8 3 7 w) = inb (w8 w) := by kernel_rfl
  have g3 : Elxi3.grd (a372 s w) (g8 3 7 w) = (inb (w8 w) && inb (w8 (w.fdiv 256))) := by kernel_rfl
  have g4 : Einx3.grd (a373 s w) (g8 3 7 w) = inw (256 * w8 (w.fdiv 256) + w8 w) := by kernel_rfl
  rw [g2, g3, g4, m1, m2, m3, m4, m5, e0]
  simp [t8, isMem_ok, neM, prM, eqF, Exchg, mOf, pc0, *]
theorem z8_37 (hs : s.Ok) (hw : B16 w) : MWp Try.prog (st8 (pc0 s) 3 7 w (g8 3 7 w) (l8 3 7 w)) (fun u _ => u = .bool true) :=
  MWp.out (cx8_ok (by simp [Emov37_ok, Emvi3_ok, Elxi3_ok, Einx3_ok, Exchg_ok])) 3000 _ (x8_37 s w) (y8_37 s w hs hw _ rfl) (fun _ => rfl)
end
theorem z8d3 (r : Int) (h3 : 0 ≤ r) (h4 : r ≤ 7) (hr6 : r ≠ 6) (s : Sv) (w : Int) (hs : s.Ok) (hw : B16 w) : MWp Try.prog (st8 (pc0 s) 3 r w (g8 3 r w) (l8 3 r w)) (fun u _ => u = .bool true) := by
  have : r = 0 ∨ r = 1 ∨ r = 2 ∨ r = 3 ∨ r = 4 ∨ r = 5 ∨ r = 7 := by omega
  rcases this with rfl | rfl | rfl | rfl | rfl | rfl | rfl
  · exact z8_30 s w hs hw
  · exact z8_31 s w hs hw
  · exact z8_32 s w hs hw
  · exact z8_33 s w hs hw
  · exact z8_34 s w hs hw
  · exact z8_35 s w hs hw
  · exact z8_37 s w hs hw
end Go.Proofs.Ytpggoincnebfnaa
namespace Go.Proofs.Ytpggoincnebfnaa
open Go Go.Ly Go.RowKit
section
variable (s : Sv) (w : Int)
def a401 : Mc := Emov40.mf (mOf (pc0 s)) (g8 4 0 w)
def a402 : Mc := Emvi4.mf (a401 s w) (g8 4 0 w)
def a403 : Mc := Elxi0.mf (a402 s w) (g8 4 0 w)
def a404 : Mc := Einx0.mf (a403 s w) (g8 4 0 w)
def a405 : Mc := Exchg.mf (a404 s w) (g8 4 0 w)
set_option maxRecDepth 100000 in
theorem x8_40 : (Ly.run (cx8 [Emov40, Emvi4, Elxi0, Einx0, Exchg]) 3000 [(4, true), (10, false), (3, true), (2, true), (8, false), (2, true), (3, true), (14, true), (4, true), (36, true), (5, true), (10, true), (4, true), (15, true), (15, true), (10, true)] (st8 (pc0 s) 4 0 w (g8 4 0 w) (l8 4 0 w))).out? = some (t8 (mOf (pc0 s)) (a401 s w) (a402 s w) (a403 s w) (a404 s w) (a405 s w) { mOf (pc0 s) with r4 := s.r0 } { mOf (pc0 s) with r4 := w8 w } (g8 4 0 w) w 0 (Emvi4.grd (a401 s w) (g8 4 0 w)) (Elxi0.grd (a402 s w) (g8 4 0 w)) (Einx0.grd (a403 s w) (g8 4 0 w)) (Exchg.grd (a404 s w) (g8 4 0 w)), .bool true) := by kernel_rfl
theorem y8_40 (hs : s.Ok) (hw : B16 w) (u : List (Bool × Bool)) (hu : u = t8 (mOf (pc0 s)) (a401 s w) (a402 s w) (a403 s w) (a404 s w) (a405 s w) { mOf (pc0 s) with r4 := s.r0 } { mOf (pc0 s) with r4 := w8 w } (g8 4 0 w) w 0 (Emvi4.grd (a401 s w) (g8 4 0 w)) (Elxi0.grd (a402 s w) (g8 4 0 w)) (Einx0.grd (a403 s w) (g8 4 0 w)) (Exchg.grd (a404 s w) (g8 4 0 w))) : trusted u := by
  obtain ⟨⟨q0, q1, q2, q3, q4, q5, q6, q7⟩, qs, qp⟩ := hs
  subst hu
  have e0 := hilo hw
  have e1 := hilo1 (w + 1)
  have n1 := b8hi (w + 1)
  have m1 : a401 s w = ⟨s.r0, s.r1, s.r2, s.r3, s.r0, s.r5, s.r7, s.fs, s.fz, s.fx, s.fp, s.fc, s.sp, 1, s.ie, false⟩ := by kernel_rfl
  have m2 : a402 s w = ⟨s.r0, s.r1, s.r2, s.r3, w8 w, s.r5, s.r7, s.fs, s.fz, s.fx, s.fp, s.fc, s.sp, 3, s.ie, false⟩ := by kernel_rfl
  have m3 : a403 s w = ⟨w8 (w.fdiv 256), w8 w, s.r2, s.r3, w8 w, s.r5, s.r7, s.fs, s.fz, s.fx, s.fp, s.fc, s.sp, 6, s.ie, false⟩ := by kernel_rfl
  have m4 : a404 s w = ⟨(256 * w8 (w.fdiv 256) + w8 w + 1) % 65536 / 256, (256 * w8 (w.fdiv 256) + w8 w + 1) % 256, s.r2, s.r3, w8 w, s.r5, s.r7, s.fs, s.fz, s.fx, s.fp, s.fc, s.sp, 7, s.ie, false⟩ := by kernel_rfl
  have m5 : a405 s w = ⟨(256 * w8 (w.fdiv 256) + w8 w + 1) % 65536 / 256, (256 * w8 (w.fdiv 256) + w8 w + 1) % 256, w8 w, s.r5, s.r2, s.r3, s.r7, s.fs, s.fz, s.fx, s.fp, s.fc, s.sp, 8, s.ie, false⟩ := by kernel_rfl
  have g2 : Emvi4.grd (a401 s w) (g8 4 0 w) = inb (w8 w) := by kernel_rfl
  have g3 : Elxi0.grd (a402 s w) (g8 4 0 w) = (inb (w8 w) && inb (w8 (w.fdiv 256))) := by kernel_rfl
  have g4 : Einx0.grd (a403 s w) (g8 4 0 w) = (inb (w8 (w.fdiv 256)) && inb (w8 w)) := by kernel_rfl
  rw [g2, g3, g4, m1, m2, m3, m4, m5, e0]
  simp [t8, isMem_ok, neM, prM, eqF, Exchg, mOf, pc0, *]
theorem z8_40 (hs : s.Ok) (hw : B16 w) : MWp Try.prog (st8 (pc0 s) 4 0 w (g8 4 0 w) (l8 4 0 w)) (fun u _ => u = .bool true) :=
  MWp.out (cx8_ok (by simp [Emov40_ok, Emvi4_ok, Elxi0_ok, Einx0_ok, Exchg_ok])) 3000 _ (x8_40 s w) (y8_40 s w hs hw _ rfl) (fun _ => rfl)
end
section
variable (s : Sv) (w : Int)
def a411 : Mc := Emov41.mf (mOf (pc0 s)) (g8 4 1 w)
def a412 : Mc := Emvi4.mf (a411 s w) (g8 4 1 w)
def a413 : Mc := Elxi0.mf (a412 s w) (g8 4 1 w)
def a414 : Mc := Einx0.mf (a413 s w) (g8 4 1 w)
def a415 : Mc := Exchg.mf (a414 s w) (g8 4 1 w)
set_option maxRecDepth 100000 in
theorem x8_41 : (Ly.run (cx8 [Emov41, Emvi4, Elxi0, Einx0, Exchg]) 3000 [(4, true), (10, false), (3, true), (2, true), (8, false), (2, true), (3, true), (14, true), (4, true), (36, true), (5, true), (10, true), (4, true), (15, true), (15, true), (10, true)] (st8 (pc0 s) 4 1 w (g8 4 1 w) (l8 4 1 w))).out? = some (t8 (mOf (pc0 s)) (a411 s w) (a412 s w) (a413 s w) (a414 s w) (a415 s w) { mOf (pc0 s) with r4 := s.r1 } { mOf (pc0 s) with r4 := w8 w } (g8 4 1 w) w 0 (Emvi4.grd (a411 s w) (g8 4 1 w)) (Elxi0.grd (a412 s w) (g8 4 1 w)) (Einx0.grd (a413 s w) (g8 4 1 w)) (Exchg.grd (a414 s w) (g8 4 1 w)), .bool true) := by kernel_rfl
theorem y8_41 (hs : s.Ok) (hw : B16 w) (u : List (Bool × Bool)) (hu : u = t8 (mOf (pc0 s)) (a411 s w) (a412 s w) (a413 s w) (a414 s w) (a415 s w) { mOf (pc0 s) with r4 := s.r1 } { mOf (pc0 s) with r4 := w8 w } (g8 4 1 w) w 0 (Emvi4.grd (a411 s w) (g8 4 1 w)) (Elxi0.grd (a412 s w) (g8 4 1 w)) (Einx0.grd (a413 s w) (g8 4 1 w)) (Exchg.grd (a414 s w) (g8 4 1 w))) : trusted u := by
  obtain ⟨⟨q0, q1, q2, q3, q4, q5, q6, q7⟩, qs, qp⟩ := hs
  subst hu
  have e0 := hilo hw
  have e1 := hilo1 (w + 1)
  have n1 := b8hi (w + 1)
  have m1 : a411 s w = ⟨s.r0, s.r1, s.r2, s.r3, s.r1, s.r5, s.r7, s.fs, s.fz, s.fx, s.fp, s.fc, s.sp, 1, s.ie, false⟩ := by kernel_rfl
  have m2 : a412 s w = ⟨s.r0, s.r1, s.r2, s.r3, w8 w, s.r5, s.r7, s.fs, s.fz, s.fx, s.fp, s.fc, s.sp, 3, s.ie, false⟩ := by kernel_rfl
  have m3 : a413 s w = ⟨w8 (w.fdiv 256), w8 w, s.r2, s.r3, w8 w, s.r5, s.r7, s.fs, s.fz, s.fx, s.fp, s.fc, s.sp, 6, s.ie, false⟩ := by kernel_rfl
  have m4 : a414 s w = ⟨(256 * w8 (w.fdiv 256) + w8 w + 1) % 65536 / 256, (256 * w8 (w.fdiv 256) + w8 w + 1) % 256, s.r2, s.r3, w8 w, s.r5, s.r7, s.fs, s.fz, s.fx, s.fp, s.fc, s.sp, 7, s.ie, false⟩ := by kernel_rfl
  have m5 : a415 s w = ⟨(256 * w8 (w.fdiv 256) + w8 w + 1) % 65536 / 256, (256 * w8 (w.fdiv 256) + w8 w + 1) % 256, w8 w, s.r5, s.r2, s.r3, s.r7, s.fs, s.fz, s.fx, s.fp, s.fc, s.sp, 8, s.ie, false⟩ := by kernel_rfl
  have g2 : Emvi4.grd (a411 s w) (g8 4 1 w) = inb (w8 w) := by kernel_rfl
  have g3 : Elxi0.grd (a412 s w) (g8 4 1 w) = (inb (w8 w) && inb (w8 (w.fdiv 256))) := by kernel_rfl
  have g4 : Einx0.grd (a413 s w) (g8 4 1 w) = (inb (w8 (w.fdiv 256)) && inb (w8 w)) := by kernel_rfl
  rw [g2, g3, g4, m1, m2, m3, m4, m5, e0]
  simp [t8, isMem_ok, neM, prM, eqF, Exchg, mOf, pc0, *]
theorem z8_41 (hs : s.Ok) (hw : B16 w) : MWp Try.prog (st8 (pc0 s) 4 1 w (g8 4 1 w) (l8 4 1 w)) (fun u _ => u = .bool true) :=
  MWp.out (cx8_ok (by simp [Emov41_ok, Emvi4_ok, Elxi0_ok, Einx0_ok, Exchg_ok])) 3000 _ (x8_41 s w) (y8_41 s w hs hw _ rfl) (fun _ => rfl)
end
section
variable (s : Sv) (w : Int)
def a421 : Mc := Emov42.mf (mOf (pc0 s)) (g8 4 2 w)
def a422 : Mc := Emvi4.mf (a421 s w) (g8 4 2 w)
def a423 : Mc := Elxi0.mf (a422 s w) (g8 4 2 w)
def a424 : Mc := Einx0.mf (a423 s w) (g8 4 2 w)
def a425 : Mc := Exchg.mf (a424 s w) (g8 4 2 w)
set_option maxRecDepth 100000 in
theorem x8_42 : (Ly.run (cx8 [Emov42, Emvi4, Elxi0, Einx0, Exchg]) 3000 [(4, true), (10, false), (3, true), (2, true), (8, false), (2, true), (3, true), (14, true), (4, true), (36, true), (5, true), (10, true), (4, true), (15, true), (15, true), (10, true)] (st8 (pc0 s) 4 2 w (g8 4 2 w) (l8 4 2 w))).out? = some (t8 (mOf (pc0 s)) (a421 s w) (a422 s w) (a423 s w) (a424 s w) (a425 s w) { mOf (pc0 s) with r4 := s.r2 } { mOf (pc0 s) with r4 := w8 w } (g8 4 2 w) w 0 (Emvi4.grd (a421 s w) (g8 4 2 w)) (Elxi0.grd (a422 s w) (g8 4 2 w)) (Einx0.grd (a423 s w) (g8 4 2 w)) (Exchg.grd (a424 s w) (g8 4 2 w)), .bool true) := by kernel_rfl
theorem y8_42 (hs : s.Ok) (hw : B16 w) (u : List (Bool × Bool)) (hu : u = t8 (mOf (pc0 s)) (a421 s w) (a422 s w) (a423 s w) (a424 s w) (a425 s w) { mOf (pc0 s) with r4 := s.r2 } { mOf (pc0 s) with r4 := w8 w } (g8 4 2 w) w 0 (Emvi4.grd (a421 s w) (g8 4 2 w)) (Elxi0.grd (a422 s w) (g8 4 2 w)) (Einx0.grd (a423 s w) (g8 4 2 w)) (Exchg.grd (a424 s w) (g8 4 2 w))) : trusted u := by
  obtain ⟨⟨q0, q1, q2, q3, q4, q5, q6, q7⟩, qs, qp⟩ := hs
  subst hu
  have e0 := hilo hw
  have e1 := hilo1 (w + 1)
  have n1 := b8hi (w + 1)
  have m1 : a421 s w = ⟨s.r0, s.r1, s.r2, s.r3, s.r2, s.r5, s.r7, s.fs, s.fz, s.fx, s.fp, s.fc, s.sp, 1, s.ie, false⟩ := by kernel_rfl
  have m2 : a422 s w = ⟨s.r0, s.r1, s.r2, s.r3, w8 w, s.r5, s.r7, s.fs, s.fz, s.fx, s.fp, s.fc, s.sp, 3, s.ie, false⟩ := by kernel_rfl
  have m3 : a423 s w = ⟨w8 (w.fdiv 256), w8 w, s.r2, s.r3, w8 w, s.r5, s.r7, s.fs, s.fz, s.fx, s.fp, s.fc, s.sp, 6, s.ie, false⟩ := by kernel_rfl
  have m4 : a424 s w = ⟨(256 * w8 (w.fdiv 256) + w8 w + 1) % 65536 / 256, (256 * w8 (w.fdiv 256) + w8 w + 1) % 256, s.r2, s.r3, w8 w, s.r5, s.r7, s.fs, s.fz, s.fx, s.fp, s.fc, s.sp, 7, s.ie, false⟩ := by kernel_rfl
  have m5 : a425 s w = ⟨(256 * w8 (w.fdiv 256) + w8 w + 1) % 65536 / 256, (256 * w8 (w.fdiv 256) + w8 w + 1) % 256, w8 w, s.r5, s.r2, s.r3, s.r7, s.fs, s.fz, s.fx, s.fp, s.fc, s.sp, 8, s.ie, false⟩ := by kernel_rfl
  have g2 : Emvi4.grd (a421 s w) (g8 4 2 w) = inb (w8 w) := by kernel_rfl
  have g3 : Elxi0.grd (a422 s w) (g8 4 2 w) = (inb (w8 w) && inb (w8 (w.fdiv 256))) := by kernel_rfl
  have g4 : Einx0.grd (a423 s w) (g8 4 2 w) = (inb (w8 (w.fdiv 256)) && inb (w8 w)) := by kernel_rfl
  rw [g2, g3, g4, m1, m2, m3, m4, m5, e0]
  simp [t8, isMem_ok, neM, prM, eqF, Exchg, mOf, pc0, *]
theorem z8_42 (hs : s.Ok) (hw : B16 w) : MWp Try.prog (st8 (pc0 s) 4 2 w (g8 4 2 w) (l8 4 2 w)) (fun u _ => u = .bool true) :=
  MWp.out (cx8_ok (by simp [Emov42_ok, Emvi4_ok, Elxi0_ok, Einx0_ok, Exchg_ok])) 3000 _ (x8_42 s w) (y8_42 s w hs hw _ rfl) (fun _ => rfl)
end
section
variable (s : Sv) (w : Int)
def a431 : Mc := Emov43.mf (mOf (pc0 s)) (g8 4 3 w)
def a432 : Mc := Emvi4.mf (a431 s w) (g8 4 3 w)
def a433 : Mc := Elxi0.mf (a432 s w) (g8 4 3 w)
def a434 : Mc := Einx0.mf (a433 s w) (g8 4 3 w)
def a435 : Mc := Exchg.mf (a434 s w) (g8 4 3 w)
set_option maxRecDepth 100000 in
theorem x8_43 : (Ly.run (cx8 [Emov43, Emvi4, Elxi0, Einx0, Exchg]) 3000 [(4, true), (10, false), (3, true), (2, true), (8, false), (2, true), (3, true), (14, true), (4, true), (36, true), (5, true), (10, true), (4, true), (15, true), (15, true), (10, true)] (st8 (pc0 s) 4 3 w (g8 4 3 w) (l8 4 3 w))).out? = some (t8 (mOf (pc0 s)) (a431 s w) (a432 s w) (a433 s w) (a434 s w) (a435 s w) { mOf (pc0 s) with r4 := s.r3 } { mOf (pc0 s) with r4 := w8 w } (g8 4 3 w) w 0 (Emvi4.grd (a431 s w) (g8 4 3 w)) (Elxi0.grd (a432 s w) (g8 4 3 w)) (Einx0.grd (a433 s w) (g8 4 3 w)) (Exchg.grd (a434 s w) (g8 4 3 w)), .bool true) := by kernel_rfl
theorem y8_43 (hs : s.Ok) (hw : B16 w) (u : List (Bool × Bool)) (hu : u = t8 (mOf (pc0 s)) (a431 s w) (a432 s w) (a433 s w) (a434 s w) (a435 s w) { mOf (pc0 s) with r4 := s.r3 } { mOf (pc0 s) with r4 := w8 w } (g8 4 3 w) w 0 (Emvi4.grd (a431 s w) (g8 4 3 w)) (Elxi0.grd (a432 s w) (g8 4 3 w)) (Einx0.grd (a433 s w) (g8 4 3 w)) (Exchg.grd (a434 s w) (g8 4 3 w))) : trusted u := by
  obtain ⟨⟨q0, q1, q2, q3, q4, q5, q6, q7⟩, qs, qp⟩ := hs
  subst hu
  have e0 := hilo hw
  have e1 := hilo1 (w + 1)
  have n1 := b8hi (w + 1)
  have m1 : a431 s w = ⟨s.r0, s.r1, s.r2, s.r3, s.r3, s.r5, s.r7, s.fs, s.fz, s.fx, s.fp, s.fc, s.sp, 1, s.ie, false⟩ := by kernel_rfl
  have m2 : a432 s w = ⟨s.r0, s.r1, s.r2, s.r3, w8 w, s.r5, s.r7, s.fs, s.fz, s.fx, s.fp, s.fc, s.sp, 3, s.ie, false⟩ := by kernel_rfl
  have m3 : a433 s w = ⟨w8 (w.fdiv 256), w8 w, s.r2, s.r3, w8 w, s.r5, s.r7, s.fs, s.fz, s.fx, s.fp, s.fc, s.sp, 6, s.ie, false⟩ := by kernel_rfl
  have m4 : a434 s w = ⟨(256 * w8 (w.fdiv 256) + w8 w + 1) % 65536 / 256, (256 * w8 (w.fdiv 256) + w8 w + 1) % 256, s.r2, s.r3, w8 w, s.r5, s.r7, s.fs, s.fz, s.fx, s.fp, s.fc, s.sp, 7, s.ie, false⟩ := by kernel_rfl
  have m5 : a435 s w = ⟨(256 * w8 (w.fdiv 256) + w8 w + 1) % 65536 / 256, (256 * w8 (w.fdiv 256) + w8 w + 1) % 256, w8 w, s.r5, s.r2, s.r3, s.r7, s.fs, s.fz, s.fx, s.fp, s.fc, s.sp, 8, s.ie, false⟩ := by kernel_rfl
  have g2 : Emvi4.grd (a431 s w) (g8 4 3 w) = inb (w8 w) := by kernel_rfl
  have g3 : Elxi0.grd (a432 s w) (g8 4 3 w) = (inb (w8 w) && inb (w8 (w.fdiv 256))) := by kernel_rfl
  have g4 : Einx0.grd (a433 s w) (g8 4 3 w) = (inb (w8 (w.fdiv 256)) && inb (w8 w)) := by kernel_rfl
  rw [g2, g3, g4, m1, m2, m3, m4, m5, e0]
  simp [t8, isMem_ok, neM, prM, eqF, Exchg, mOf, pc0, *]
theorem z8_43 (hs : s.Ok) (hw : B16 w) : MWp Try.prog (st8 (pc0 s) 4 3 w (g8 4 3 w) (l8 4 3 w)) (fun u _ => u = .bool true) :=
  MWp.out (cx8_ok (by simp [Emov43_ok, Emvi4_ok, Elxi0_ok, Einx0_ok, Exchg_ok])) 3000 _ (x8_43 s w) (y8_43 s w hs hw _ rfl) (fun _ => rfl)
end
section
variable (s : Sv) (w : Int)
def a441 : Mc := Emov44.mf (mOf (pc0 s)) (g8 4 4 w)
def a442 : Mc := Emvi4.mf (a441 s w) (g8 4 4 w)
def a443 : Mc := Elxi0.mf (a442 s w) (g8 4 4 w)
def a444 : Mc := Einx0.mf (a443 s w) (g8 4 4 w)
def a445 : Mc := Exchg.mf (a444 s w) (g8 4 4 w)
set_option maxRecDepth 100000 in
theorem x8_44 : (Ly.run (cx8 [Emov44, Emvi4, Elxi0, Einx0, Exchg]) 3000 [(4, true), (10, false), (3, true), (2, true), (8, false), (2, true), (3, true), (14, true), (4, true), (36, true), (5, true), (10, true), (4, true), (15, true), (15, true), (10, true)] (st8 (pc0 s) 4 4 w (g8 4 4 w) (l8 4 4 w))).out? = some (t8 (mOf (pc0 s)) (a441 s w) (a442 s w) (a443 s w) (a444 s w) (a445 s w) { mOf (pc0 s) with r4 := s.r4 } { mOf (pc0 s) with r4 := w8 w } (g8 4 4 w) w 0 (Emvi4.grd (a441 s w) (g8 4 4 w)) (Elxi0.grd (a442 s w) (g8 4 4 w)) (Einx0.grd (a443 s w) (g8 4 4 w)) (Exchg.grd (a444 s w) (g8 4 4 w)), .bool true) := by kernel_rfl
theorem y8_44 (hs : s.Ok) (hw : B16 w) (u : List (Bool × Bool)) (hu : u = t8 (mOf (pc0 s)) (a441 s w) (a442 s w) (a443 s w) (a444 s w) (a445 s w) { mOf (pc0 s) with r4 := s.r4 } { mOf (pc0 s) with r4 := w8 w } (g8 4 4 w) w 0 (Emvi4.grd (a441 s w) (g8 4 4 w)) (Elxi0.grd (a442 s w) (g8 4 4 w)) (Einx0.grd (a443 s w) (g8 4 4 w)) (Exchg.grd (a444 s w) (g8 4 4 w))) : trusted u := by
  obtain ⟨⟨q0, q1, q2, q3, q4, q5, q6, q7⟩, qs, qp⟩ := hs
  subst hu
  have e0 := hilo hw
  have e1 := hilo1 (w + 1)
  have n1 := b8hi (w + 1)
  have m1 : a441 s w = ⟨s.r0, s.r1, s.r2, s.r3, s.r4, s.r5, s.r7, s.fs, s.fz, s.fx, s.fp, s.fc, s.sp, 1, s.ie, false⟩ := by kernel_rfl
  have m2 : a442 s w = ⟨s.r0, s.r1, s.r2, s.r3, w8 w, s.r5, s.r7, s.fs, s.fz, s.fx, s.fp, s.fc, s.sp, 3, s.ie, false⟩ := by kernel_rfl
  have m3 : a443 s w = ⟨w8 (w.fdiv 256), w8 w, s.r2, s.r3, w8 w, s.r5, s.r7, s.fs, s.fz, s.fx, s.fp, s.fc, s.sp, 6, s.ie, false⟩ := by kernel_rfl
  have m4 : a444 s w = ⟨(256 * w8 (w.fdiv 256) + w8 w + 1) % 65536 / 256, (256 * w8 (w.fdiv 256) + w8 w + 1) % 256, s.r2, s.r3, w8 w, s.r5, s.r7, s.fs, s.fz, s.fx, s.fp, s.fc, s.sp, 7, s.ie, false⟩ := by kernel_rfl
  have m5 : a445 s w = ⟨(256 * w8 (w.fdiv 256) + w8 w + 1) % 65536 / 256, (256 * w8 (w.fdiv 256) + w8 w + 1) % 256, w8 w, s.r5, s.r2, s.r3, s.r7, s.fs, s.fz, s.fx, s.fp, s.fc, s.sp, 8, s.ie, false⟩ := by kernel_rfl
  have g2 : Emvi4.grd (a441 s w) (g8 4 4 w) = inb (w8 w) := by kernel_rfl
  have g3 : Elxi0.grd (a442 s w) (g8 4 4 w) = (inb (w8 w) && inb (w8 (w.fdiv 256))) := by kernel_rfl
  have g4 : Einx0.grd (a443 s w) (g8 4 4 w) = (inb (w8 (w.fdiv 256)) && inb (w8 w)) := by kernel_rfl
  rw [g2, g3, g4, m1, m2, m3, m4, m5, e0]
  simp [t8, isMem_ok, neM, prM, eqF, Exchg, mOf, pc0, *]
theorem z8_44 (hs : s.Ok) (hw : B16 w) : MWp Try.prog (st8 (pc0 s) 4 4 w (g8 4 4 w) (l8 4 4 w)) (fun u _ => u = .bool true) :=
  MWp.out (cx8_ok (by simp [Emov44_ok, Emvi4_ok, Elxi0_ok, Einx0_ok, Exchg_ok])) 3000 _ (x8_44 s w) (y8_44 s w hs hw _ rfl) (fun _ => rfl)
end
section
variable (s : Sv) (w : Int)
def a451 : Mc := Emov45.mf (mOf (pc0 s)) (g8 4 5 w)
def a452 : Mc := Emvi4.mf (a451 s w) (g8 4 5 w)
def a453 : Mc := Elxi0.mf (a452 s w) (g8 4 5 w)
def a454 : Mc := Einx0.mf (a453 s w) (g8 4 5 w)
def a455 : Mc := Exchg.mf (a454 s w) (g8 4 5 w)
set_option maxRecDepth 100000 in
theorem x8_45 : (Ly.run (cx8 [Emov45, Emvi4, Elxi0, Einx0, Exchg]) 3000 [(4, true), (10, false), (3, true), (2, true), (8, false), (2, true), (3, true), (14, true), (4, true), (36, true), (5, true), (10, true), (4, true), (15, true), (15, true), (10, true)] (st8 (pc0 s) 4 5 w (g8 4 5 w) (l8 4 5 w))).out? = some (t8 (mOf (pc0 s)) (a451 s w) (a452 s w) (a453 s w) (a454 s w) (a455 s w) { mOf (pc0 s) with r4 := s.r5 } { mOf (pc0 s) with r4 := w8 w } (g8 4 5 w) w 0 (Emvi4.grd (a451 s w) (g8 4 5 w)) (Elxi0.grd (a452 s w) (g8 4 5 w)) (Einx0.grd (a453 s w) (g8 4 5 w)) (Exchg.grd (a454 s w) (g8 4 5 w)), .bool true) := by kernel_rfl
theorem y8_45 (hs : s.Ok) (hw : B16 w) (u : List (Bool × Bool)) (hu : u = t8 (mOf (pc0 s)) (a451 s w) (a452 s w) (a453 s w) (a454 s w) (a455 s w) { mOf (pc0 s) with r4 := s.r5 } { mOf (pc0 s) with r4 := w8 w } (g8 4 5 w) w 0 (Emvi4.grd (a451 s w) (g8 4 5 w)) (Elxi0.grd (a452 s w) (g8 4 5 w)) (Einx0.grd (a453 s w) (g8 4 5 w)) (Exchg.grd (a454 s w) (g8 4 5 w))) : trusted u := by
  obtain ⟨⟨q0, q1, q2, q3, q4, q5, q6, q7⟩, qs, qp⟩ := hs
  subst hu
  have e0 := hilo hw
  have e1 := hilo1 (w + 1)
  have n1 := b8hi (w + 1)
  have m1 : a451 s w = ⟨s.r0, s.r1, s.r2, s.r3, s.r5, s.r5, s.r7, s.fs, s.fz, s.fx, s.fp, s.fc, s.sp, 1, s.ie, false⟩ := by kernel_rfl
  have m2 : a452 s w = ⟨s.r0, s.r1, s.r2, s.r3, w8 w, s.r5, s.r7, s.fs, s.fz, s.fx, s.fp, s.fc, s.sp, 3, s.ie, false⟩ := by kernel_rfl
  have m3 : a453 s w = ⟨w8 (w.fdiv 256), w8 w, s.r2, s.r3, w8 w, s.r5, s.r7, s.fs, s.fz, s.fx, s.fp, s.fc, s.sp, 6, s.ie, false⟩ := by kernel_rfl
  have m4 : a454 s w = ⟨(256 * w8 (w.fdiv 256) + w8 w + 1) % 65536 / 256, (256 * w8 (w.fdiv 256) + w8 w + 1) % 256, s.r2, s.r3, w8 w, s.r5, s.r7, s.fs, s.fz, s.fx, s.fp, s.fc, s.sp, 7, s.ie, false⟩ := by kernel_rfl
  have m5 : a455 s w = ⟨(256 * w8 (w.fdiv 256) + w8 w + 1) % 65536 / 256, (256 * w8 (w.fdiv 256) + w8 w + 1) % 256, w8 w, s.r5, s.r2, s.r3, s.r7, s.fs, s.fz, s.fx, s.fp, s.fc, s.sp, 8, s.ie, false⟩ := by kernel_rfl
  have g2 : Emvi4.grd (a451 s w) (g8 4 5 w) = inb (w8 w) := by kernel_rfl
  have g3 : Elxi0.grd (a452 s w) (g8 4 5 w) = (inb (w8 w) && inb (w8 (w.fdiv 256))) := by kernel_rfl
  have g4 : Einx0.grd (a453 s w) (g8 4 5 w) = (inb (w8 (w.fdiv 256)) && inb (w8 w)) := by kernel_rfl
  rw [g2, g3, g4, m1, m2, m3, m4, m5, e0]
  simp [t8, isMem_ok, neM, prM, eqF, Exchg, mOf, pc0, *]
theorem z8_45 (hs : s.Ok) (hw : B16 w) : MWp Try.prog (st8 (pc0 s) 4 5 w (g8 4 5 w) (l8 4 5 w)) (fun u _ => u = .bool true) :=
  MWp.out (cx8_ok (by simp [Emov45_ok, Emvi4_ok, Elxi0_ok, Einx0_ok, Exchg_ok])) 3000 _ (x8_45 s w) (y8_45 s w hs hw _ rfl) (fun _ => rfl)
end
section
variable (s : Sv) (w : Int)
def a471 : Mc := Emov47.mf (mOf (pc0 s)) (g8 4 7 w)
def a472 : Mc := Emvi4.mf (a471 s w) (g8 4 7 w)
def a473 : Mc := Elxi0.mf (a472 s w) (g8 4 7 w)
def a474 : Mc := Einx0.mf (a473 s w) (g8 4 7 w)
def a475 : Mc := Exchg.mf (a474 s w) (g8 4 7 w)
set_option maxRecDepth 100000 in
theorem x8_47 : (Ly.run (cx8 [Emov47, Emvi4, Elxi0, Einx0, Exchg]) 3000 [(4, true), (10, false), (3, true), (2, true), (8, false), (2, true), (3, true), (14, true), (4, true), (36, true), (5, true), (10, true), (4, true), (15, true), (15, true), (10, true)] (st8 (pc0 s) 4 7 w (g8 4 7 w) (l8 4 7 w))).out? = some (t8 (mOf (pc0 s)) (a471 s w) (a472 s w) (a473 s w) (a474 s w) (a475 s w) { mOf (pc0 s) with r4 := s.r7 } { mOf (pc0 s) with r4 := w8 w } (g8 4 7 w) w 0 (Emvi4.grd (a471 s w) (g8 4 7 w)) (Elxi0.grd (a472 s w) (g8 4 7 w)) (Einx0.grd (a473 s w) (g8 4 7 w)) (Exchg.grd (a474 s w) (g8 4 7 w)), .bool true) := by kernel_rfl
theorem y8_47 (hs : s.Ok) (hw : B16 w) (u : List (Bool × Bool)) (hu : u = t8 (mOf (pc0 s)) (a471 s w) (a472 s w) (a473 s w) (a474 s w) (a475 s w) { mOf (pc0 s) with r4 := s.r7 } { mOf (pc0 s) with r4 := w8 w } (g8 4 7 w) w 0 (Emvi4.grd (a471 s w) (g8 4 7 w)) (Elxi0.grd (a472 s w) (g8 4 7 w)) (Einx0.grd (a473 s w) (g8 4 7 w)) (Exchg.grd (a474 s w) (g8 4 7 w))) : trusted u := by
  obtain ⟨⟨q0, q1, q2, q3, q4, q5, q6, q7⟩, qs, qp⟩ := hs
  subst hu
  have e0 := hilo hw
  have e1 := hilo1 (w + 1)
  have n1 := b8hi (w + 1)
  have m1 : a471 s w = ⟨s.r0, s.r1, s.r2, s.r3, s.r7, s.r5, s.r7, s.fs, s.fz, s.fx, s.fp, s.fc, s.sp, 1, s.ie, false⟩ := by kernel_rfl
  have m2 : a472 s w = ⟨s.r0, s.r1, s.r2, s.r3, w8 w, s.r5, s.r7, s.fs, s.fz, s.fx, s.fp, s.fc, s.sp, 3, s.ie, false⟩ := by kernel_rfl
  have m3 : a473 s w = ⟨w8 (w.fdiv 256), w8 w, s.r2, s.r3, w8 w, s.r5, s.r7, s.fs, s.fz, s.fx, s.fp, s.fc, s.sp, 6, s.ie, false⟩ := by kernel_rfl
  have m4 : a474 s w = ⟨(256 * w8 (w.fdiv 256) + w8 w + 1) % 65536 / 256, (256 * w8 (w.fdiv 256) + w8 w + 1) % 256, s.r2, s.r3, w8 w, s.r5, s.r7, s.fs, s.fz, s.fx, s.fp, s.fc, s.sp, 7, s.ie, false⟩ := by kernel_rfl
  have m5 : a475 s w = ⟨(256 * w8 (w.fdiv 256) + w8 w + 1) % 65536 / 256, (256 * w8 (w.fdiv 256) + w8 w + 1) % 256, w8 w, s.r5, s.r2, s.r3, s.r7, s.fs, s.fz, s.fx, s.fp, s.fc, s.sp, 8, s.ie, false⟩ := by kernel_rfl
  have g2 : Emvi4.grd (a471 s w) (g8 4 7 w) = inb (w8 w) := by kernel_rfl
  have g3 : Elxi0.grd (a472 s w) (g8 4 7 w) = (inb (w8 w) && inb (w8 (w.fdiv 256))) := by kernel_rfl
  have g4 : Einx0.grd (a473 s w) (g8 4 7 w) = (inb (w8 (w.fdiv 256)) && inb (w8 w)) := by kernel_rfl
  rw [g2, g3, g4, m1, m2, m3, m4, m5, e0]
  simp [t8, isMem_ok, neM, prM, eqF, Exchg, mOf, pc0, *]
theorem z8_47 (hs : s.Ok) (hw : B16 w) : MWp Try.prog (st8 (pc0 s) 4 7 w (g8 4 7 w) (l8 4 7 w)) (fun u _ => u = .bool true) :=
  MWp.out (cx8_ok (by simp [Emov47_ok, Emvi4_ok, Elxi0_ok, Einx0_ok, Exchg_ok])) 3000 _ (x8_47 s w) (y8_47 s w hs hw _ rfl) (fun _ => rfl)
end
theorem z8d4 (r : Int) (h3 : 0 ≤ r) (h4 : r ≤ 7) (hr6 : r ≠ 6) (s : Sv) (w : Int) (hs : s.Ok) (hw : B16 w) : MWp Try.prog (st8 (pc0 s) 4 r w (g8 4 r w) (l8 4 r w)) (fun u _ => u = .bool true) := by
  have : r = 0 ∨ r = 1 ∨ r = 2 ∨ r = 3 ∨ r = 4 ∨ r = 5 ∨ r = 7 := by omega
  rcases this with rfl | rfl | rfl | rfl | rfl | rfl | rfl
  · exact z8_40 s w hs hw
  · exact z8_41 s w hs hw
  · exact z8_42 s w hs hw
  · exact z8_43 s w hs hw
  · exact z8_44 s w hs hw
  · exact z8_45 s w hs hw
  · exact z8_47 s w hs hw
end Go.Proofs.Ytpggoincnebfnaa
namespace Go.Proofs.Ytpggoincnebfnaa
open Go Go.Ly Go.RowKit
section
variable (s : Sv) (w : Int)
def a501 : Mc := Emov50.mf (mOf (pc0 s)) (g8 5 0 w)
def a502 : Mc := Emvi5.mf (a501 s w) (g8 5 0 w)
def a503 : Mc := Elxi1.mf (a502 s w) (g8 5 0 w)
def a504 : Mc := Einx1.mf (a503 s w) (g8 5 0 w)
def a505 : Mc := Exchg.mf (a504 s w) (g8 5 0 w)
set_option maxRecDepth 100000 in
theorem x8_50 : (Ly.run (cx8 [Emov50, Emvi5, Elxi1, Einx1, Exchg]) 3000 [(4, true), (10, false), (3, true), (2, true), (8, false), (2, true), (3, true), (14, true), (4, true), (36, true), (5, true), (10, true), (4, true), (15, true), (15, true), (10, true)] (st8 (pc0 s) 5 0 w (g8 5 0 w) (l8 5 0 w))).out? = some (t8 (mOf (pc0 s)) (a501 s w) (a502 s w) (a503 s w) (a504 s w) (a505 s w) { mOf (pc0 s) with r5 := s.r0 } { mOf (pc0 s) with r5 := w8 w } (g8 5 0 w) w 1 (Emvi5.grd (a501 s w) (g8 5 0 w)) (Elxi1.grd (a502 s w) (g8 5 0 w)) (Einx1.grd (a503 s w) (g8 5 0 w)) (Exchg.grd (a504 s w) (g8 5 0 w)), .bool true) := by kernel_rfl
theorem y8_50 (hs : s.Ok) (hw : B16 w) (u : List (Bool × Bool)) (hu : u = t8 (mOf (pc0 s)) (a501 s w) (a502 s w) (a503 s w) (a504 s w) (a505 s w) { mOf (pc0 s) with r5 := s.r0 } { mOf (pc0 s) with r5 := w8 w } (g8 5 0 w) w 1 (Emvi5.grd (a501 s w) (g8 5 0 w)) (Elxi1.grd (a502 s w) (g8 5 0 w)) (Einx1.grd (a503 s w) (g8 5 0 w)) (Exchg.grd (a504 s w) (g8 5 0 w))) : trusted u := by
  obtain ⟨⟨q0, q1, q2, q3, q4, q5, q6, q7⟩, qs, qp⟩ := hs
  subst hu
  have e0 := hilo hw
  have e1 := hilo1 (w + 1)
  have n1 := b8hi (w + 1)
  have m1 : a501 s w = ⟨s.r0, s.r1, s.r2, s.r3, s.r4, s.r0, s.r7, s.fs, s.fz, s.fx, s.fp, s.fc, s.sp, 1, s.ie, false⟩ := by kernel_rfl
  have m2 : a502 s w = ⟨s.r0, s.r1, s.r2, s.r3, s.r4, w8 w, s.r7, s.fs, s.fz, s.fx, s.fp, s.fc, s.sp, 3, s.ie, false⟩ := by kernel_rfl
  have m3 : a503 s w = ⟨s.r0, s.r1, w8 (w.fdiv 256), w8 w, s.r4, w8 w, s.r7, s.fs, s.fz, s.fx, s.fp, s.fc, s.sp, 6, s.ie, false⟩ := by kernel_rfl
  have m4 : a504 s w = ⟨s.r0, s.r1, (256 * w8 (w.fdiv 256) + w8 w + 1) % 65536 / 256, (256 * w8 (w.fdiv 256) + w8 w + 1) % 256, s.r4, w8 w, s.r7, s.fs, s.fz, s.fx, s.fp, s.fc, s.sp, 7, s.ie, false⟩ := by kernel_rfl
  have m5 : a505 s w = ⟨s.r0, s.r1, s.r4, w8 w, (256 * w8 (w.fdiv 256) + w8 w + 1) % 65536 / 256, (256 * w8 (w.fdiv 256) + w8 w + 1) % 256, s.r7, s.fs, s.fz, s.fx, s.fp, s.fc, s.sp, 8, s.ie, false⟩ := by kernel_rfl
  have g2 : Emvi5.grd (a501 s w) (g8 5 0 w) = inb (w8 w) := by kernel_rfl
  have g3 : Elxi1.grd (a502 s w) (g8 5 0 w) = (inb (w8 w) && inb (w8 (w.fdiv 256))) := by kernel_rfl
  have g4 : Einx1.grd (a503 s w) (g8 5 0 w) = (inb (w8 (w.fdiv 256)) && inb (w8 w)) := by kernel_rfl
  rw [g2, g3, g4, m1, m2, m3, m4, m5, e0]
  simp [t8, isMem_ok, neM, prM, eqF, Exchg, mOf, pc0, *]
theorem z8_50 (hs : s.Ok) (hw : B16 w) : MWp Try.prog (st8 (pc0 s) 5 0 w (g8 5 0 w) (l8 5 0 w)) (fun u _ => u = .bool true) :=
  MWp.out (cx8_ok (by simp [Emov50_ok, Emvi5_ok, Elxi1_ok, Einx1_ok, Exchg_ok])) 3000 _ (x8_50 s w) (y8_50 s w hs hw _ rfl) (fun _ => rfl)
end
section
variable (s : Sv) (w : Int)
def a511 : Mc := Emov51.mf (mOf (pc0 s)) (g8 5 1 w)
def a512 : Mc := Emvi5.mf (a511 s w) (g8 5 1 w)
def a513 : Mc := Elxi1.mf (a512 s w) (g8 5 1 w)
def a514 : Mc := Einx1.mf (a513 s w) (g8 5 1 w)
def a515 : Mc := Exchg.mf (a514 s w) (g8 5 1 w)
set_option maxRecDepth 100000 in
theorem x8_51 : (Ly.run (cx8 [Emov51, Emvi5, Elxi1, Einx1, Exchg]) 3000 [(4, true), (10, false), (3, true), (2, true), (8, false), (2, true), (3, true), (14, true), (4, true), (36, true), (5, true), (10, true), (4, true), (15, true), (15, true), (10, true)] (st8 (pc0 s) 5 1 w (g8 5 1 w) (l8 5 1 w))).out? = some (t8 (mOf (pc0 s)) (a511 s w) (a512 s w) (a513 s w) (a514 s w) (a515 s w) { mOf (pc0 s) with r5 := s.r1 } { mOf (pc0 s) with r5 := w8 w } (g8 5 1 w) w 1 (Emvi5.grd (a511 s w) (g8 5 1 w)) (Elxi1.grd (a512 s w) (g8 5 1 w)) (Einx1.grd (a513 s w) (g8 5 1 w)) (Exchg.grd (a514 s w) (g8 5 1 w)), .bool true) := by kernel_rfl
theorem y8_51 (hs : s.Ok) (hw : B16 w) (u : List (Bool × Bool)) (hu : u = t8 (mOf (pc0 s)) (a511 s w) (a512 s w) (a513 s w) (a514 s w) (a515 s w) { mOf (pc0 s) with r5 := s.r1 } { mOf (pc0 s) with r5 := w8 w } (g8 5 1 w) w 1 (Emvi5.grd (a511 s w) (g8 5 1 w)) (Elxi1.grd (a512 s w) (g8 5 1 w)) (Einx1.grd (a513 s w) (g8 5 1 w)) (Exchg.grd (a514 s w) (g8 5 1 w))) : trusted u := by
  obtain ⟨⟨q0, q1, q2, q3, q4, q5, q6, q7⟩, qs, qp⟩ := hs
  subst hu
  have e0 := hilo hw
  have e1 := hilo1 (w + 1)
  have n1 := b8hi (w + 1)
  have m1 : a511 s w = ⟨s.r0, s.r1, s.r2, s.r3, s.r4, s.r1, s.r7, s.fs, s.fz, s.fx, s.fp, s.fc, s.sp, 1, s.ie, false⟩ := by kernel_rfl
  have m2 : a512 s w = ⟨s.r0, s.r1, s.r2, s.r3, s.r4, w8 w, s.r7, s.fs, s.fz, s.fx, s.fp, s.fc, s.sp, 3, s.ie, false⟩ := by kernel_rfl
  have m3 : a513 s w = ⟨s.r0, s.r1, w8 (w.fdiv 256), w8 w, s.r4, w8 w, s.r7, s.fs, s.fz, s.fx, s.fp, s.fc, s.sp, 6, s.ie, false⟩ := by kernel_rfl
  have m4 : a514 s w = ⟨s.r0, s.r1, (256 * w8 (w.fdiv 256) + w8 w + 1) % 65536 / 256, (256 * w8 (w.fdiv 256) + w8 w + 1) % 256, s.r4, w8 w, s.r7, s.fs, s.fz, s.fx, s.fp, s.fc, s.sp, 7, s.ie, false⟩ := by kernel_rfl
  have m5 : a515 s w = ⟨s.r0, s.r1, s.r4, w8 w, (256 * w8 (w.fdiv 256) + w8 w + 1) % 65536 / 256, (256 * w8 (w.fdiv 256) + w8 w + 1) % 256, s.r7, s.fs, s.fz, s.fx, s.fp, s.fc, s.sp, 8, s.ie, false⟩ := by kernel_rfl
  have g2 : Emvi5.grd (a511 s w) (g8 5 1 w) = inb (w8 w) := by kernel_rfl
  have g3 : Elxi1.grd (a512 s w) (g8 5 1 w) = (inb (w8 w) && inb (w8 (w.fdiv 256))) := by kernel_rfl
  have g4 : Einx1.grd (a513 s w) (g8 5 1 w) = (inb (w8 (w.fdiv 256)) && inb (w8 w)) := by kernel_rfl
  rw [g2, g3, g4, m1, m2, m3, m4, m5, e0]
  simp [t8, isMem_ok, neM, prM, eqF, Exchg, mOf, pc0, *]
theorem z8_51 (hs : s.Ok) (hw : B16 w) : MWp Try.prog (st8 (pc0 s) 5 1 w (g8 5 1 w) (l8 5 1 w)) (fun u _ => u = .bool true) :=
  MWp.out (cx8_ok (by simp [Emov51_ok, Emvi5_ok, Elxi1_ok, Einx1_ok, Exchg_ok])) 3000 _ (x8_51 s w) (y8_51 s w hs hw _ rfl) (fun _ => rfl)
end
section
variable (s : Sv) (w : Int)
def a521 : Mc := Emov52.mf (mOf (pc0 s)) (g8 5 2 w)
def a522 : Mc := Emvi5.mf (a521 s w) (g8 5 2 w)
def a523 : Mc := Elxi1.mf (a522 s w) (g8 5 2 w)
def a524 : Mc := Einx1.mf (a523 s w) (g8 5 2 w)
def a525 : Mc := Exchg.mf (a524 s w) (g8 5 2 w)
set_option maxRecDepth 100000 in
theorem x8_52 : (Ly.run (cx8 [Emov52, Emvi5, Elxi1, Einx1, Exchg]) 3000 [(4, true), (10, false), (3, true), (2, true), (8, false), (2, true), (3, true), (14, true), (4, true), (36, true), (5, true), (10, true), (4, true), (15, true), (15, true), (10, true)] (st8 (pc0 s) 5 2 w (g8 5 2 w) (l8 5 2 w))).out? = some (t8 (mOf (pc0 s)) (a521 s w) (a522 s w) (a523 s w) (a524 s w) (a525 s w) { mOf (pc0 s) with r5 := s.r2 } { mOf (pc0 s) with r5 := w8 w } (g8 5 2 w) w 1 (Emvi5.grd (a521 s w) (g8 5 2 w)) (Elxi1.grd (a522 s w) (g8 5 2 w)) (Einx1.grd (a523 s w) (g8 5 2 w)) (Exchg.grd (a524 s w) (g8 5 2 w)), .bool true) := by kernel_rfl
theorem y8_52 (hs : s.Ok) (hw : B16 w) (u : List (Bool × Bool)) (hu : u = t8 (mOf (pc0 s)) (a521 s w) (a522 s w) (a523 s w) (a524 s w) (a525 s w) { mOf (pc0 s) with r5 := s.r2 } { mOf (pc0 s) with r5 := w8 w } (g8 5 2 w) w 1 (Emvi5.grd (a521 s w) (g8 5 2 w)) (Elxi1.grd (a522 s w) (g8 5 2 w)) (Einx1.grd (a523 s w) (g8 5 2 w)) (Exchg.grd (a524 s w) (g8 5 2 w))) : trusted u := by
  obtain ⟨⟨q0, q1, q2, q3, q4, q5, q6, q7⟩, qs, qp⟩ := hs
  subst hu
  have e0 := hilo hw
  have e1 := hilo1 (w + 1)
  have n1 := b8hi (w + 1)
  have m1 : a521 s w = ⟨s.r0, s.r1, s.r2, s.r3, s.r4, s.r2, s.r7, s.fs, s.fz, s.fx, s.fp, s.fc, s.sp, 1, s.ie, false⟩ := by kernel_rfl
  have m2 : a522 s w = ⟨s.r0, s.r1, s.r2, s.r3, s.r4, w8 w, s.r7, s.fs, s.fz, s.fx, s.fp, s.fc, s.sp, 3, s.ie, false⟩ := by kernel_rfl
  have m3 : a523 s w = ⟨s.r0, s.r1, w8 (w.fdiv 256), w8 w, s.r4, w8 w, s.r7, s.fs, s.fz, s.fx, s.fp, s.fc, s.sp, 6, s.ie, false⟩ := by kernel_rfl
  have m4 : a524 s w = ⟨s.r0, s.r1, (256 * w8 (w.fdiv 256) + w8 w + 1) % 65536 / 256, (256 * w8 (w.fdiv 256) + w8 w + 1) % 256, s.r4, w8 w, s.r7, s.fs, s.fz, s.fx, s.fp, s.fc, s.sp, 7, s.ie, false⟩ := by kernel_rfl
  have m5 : a525 s w = ⟨s.r0, s.r1, s.r4, w8 w, (256 * w8 (w.fdiv 256) + w8 w + 1) % 65536 / 256, (256 * w8 (w.fdiv 256) + w8 w + 1) % 256, s.r7, s.fs, s.fz, s.fx, s.fp, s.fc, s.sp, 8, s.ie, false⟩ := by kernel_rfl
  have g2 : Emvi5.grd (a521 s w) (g8 5 2 w) = inb (w8 w) := by kernel_rfl
  have g3 : Elxi1.grd (a522 s w) (g8 5 2 w) = (inb (w8 w) && inb (w8 (w.fdiv 256))) := by kernel_rfl
  have g4 : Einx1.grd (a523 s w) (g8 5 2 w) = (inb (w8 (w.fdiv 256)) && inb (w8 w)) := by kernel_rfl
  rw [g2, g3, g4, m1, m2, m3, m4, m5, e0]
  simp [t8, isMem_ok, neM, prM, eqF, Exchg, mOf, pc0, *]
theorem z8_52 (hs : s.Ok) (hw : B16 w) : MWp Try.prog (st8 (pc0 s) 5 2 w (g8 5 2 w) (l8 5 2 w)) (fun u _ => u = .bool true) :=
  MWp.out (cx8_ok (by simp [Emov52_ok, Emvi5_ok, Elxi1_ok, Einx1_ok, Exchg_ok])) 3000 _ (x8_52 s w) (y8_52 s w hs hw _ rfl) (fun _ => rfl)
end
section
variable (s : Sv) (w : Int)
def a531 : Mc := Emov53.mf (mOf (pc0 s)) (g8 5 3 w)
def a532 : Mc := Emvi5.mf (a531 s w) (g8 5 3 w)
def a533 : Mc := Elxi1.mf (a532 s w) (g8 5 3 w)
def a534 : Mc := Einx1.mf (a533 s w) (g8 5 3 w)
def a535 : Mc := Exchg.mf (a534 s w) (g8 5 3 w)
set_option maxRecDepth 100000 in
theorem x8_53 : (Ly.run (cx8 [Emov53, Emvi5, Elxi1, Einx1, Exchg]) 3000 [(4, true), (10, false), (3, true), (2, true), (8, false), (2, true), (3, true), (14, true), (4, true), (36, true), (5, true), (10, true), (4, true), (15, true), (15, true), (10, true)] (st8 (pc0 s) 5 3 w (g8 5 3 w) (l8 5 3 w))).out? = some (t8 (mOf (pc0 s)) (a531 s w) (a532 s w) (a533 s w) (a534 s w) (a535 s w) { mOf (pc0 s) with r5 := s.r3 } { mOf (pc0 s) with r5 := w8 w } (g8 5 3 w) w 1 (Emvi5.grd (a531 s w) (g8 5 3 w)) (Elxi1.grd (a532 s w) (g8 5 3 w)) (Einx1.grd (a533 s w) (g8 5 3 w)) (Exchg.grd (a534 s w) (g8 5 3 w)), .bool true) := by kernel_rfl
theorem y8_53 (hs : s.Ok) (hw : B16 w) (u : List (Bool × Bool)) (hu : u = t8 (mOf (pc0 s)) (a531 s w) (a532 s w) (a533 s w) (a534 s w) (a535 s w) { mOf (pc0 s) with r5 := s.r3 } { mOf (pc0 s) with r5 := w8 w } (g8 5 3 w) w 1 (Emvi5.grd (a531 s w) (g8 5 3 w)) (Elxi1.grd (a532 s w) (g8 5 3 w)) (Einx1.grd (a533 s w) (g8 5 3 w)) (Exchg.grd (a534 s w) (g8 5 3 w))) : trusted u := by
  obtain ⟨⟨q0, q1, q2, q3, q4, q5, q6, q7⟩, qs, qp⟩ := hs
  subst hu
  have e0 := hilo hw
  have e1 := hilo1 (w + 1)
  have n1 := b8hi (w + 1)
  have m1 : a531 s w = ⟨s.r0, s.r1, s.r2, s.r3, s.r4, s.r3, s.r7, s.fs, s.fz, s.fx, s.fp, s.fc, s.sp, 1, s.ie, false⟩ := by kernel_rfl
  have m2 : a532 s w = ⟨s.r0, s.r1, s.r2, s.r3, s.r4, w8 w, s.r7, s.fs, s.fz, s.fx, s.fp, s.fc, s.sp, 3, s.ie, false⟩ := by kernel_rfl
  have m3 : a533 s w = ⟨s.r0, s.r1, w8 (w.fdiv 256), w8 w, s.r4, w8 w, s.r7, s.fs, s.fz, s.fx, s.fp, s.fc, s.sp, 6, s.ie, false⟩ := by kernel_rfl
  have m4 : a534 s w = ⟨s.r0, s.r1, (256 * w8 (w.fdiv 256) + w8 w + 1) % 65536 / 256, (256 * w8 (w.fdiv 256) + w8 w + 1) % 256, s.r4, w8 w, s.r7, s.fs, s.fz, s.fx, s.fp, s.fc, s.sp, 7, s.ie, false⟩ := by kernel_rfl
  have m5 : a535 s w = ⟨s.r0, s.r1, s.r4, w8 w, (256 * w8 (w.fdiv 256) + w8 w + 1) % 65536 / 256, (256 * w8 (w.fdiv 256) + w8 w + 1) % 256, s.r7, s.fs, s.fz, s.fx, s.fp, s.fc, s.sp, 8, s.ie, false⟩ := by kernel_rfl
  have g2 : Emvi5.grd (a531 s w) (g8 5 3 w) = inb (w8 w) := by kernel_rfl
  have g3 : Elxi1.grd (a532 s w) (g8 5 3 w) = (inb (w8 w) && inb (w8 (w.fdiv 256))) := by kernel_rfl
  have g4 : Einx1.grd (a533 s w) (g8 5 3 w) = (inb (w8 (w.fdiv 256)) && inb (w8 w)) := by kernel_rfl
  rw [g2, g3, g4, m1, m2, m3, m4, m5, e0]
  simp [t8, isMem_ok, neM, prM, eqF, Exchg, mOf, pc0, *]
theorem z8_53 (hs : s.Ok) (hw : B16 w) : MWp Try.prog (st8 (pc0 s) 5 3 w (g8 5 3 w) (l8 5 3 w)) (fun u _ => u = .bool true) :=
  MWp.out (cx8_ok (by simp [Emov53_ok, Emvi5_ok, Elxi1_ok, Einx1_ok, Exchg_ok])) 3000 _ (x8_53 s w) (y8_53 s w hs hw _ rfl) (fun _ => rfl)
end
section
variable (s : Sv) (w : Int)
def a541 : Mc := Emov54.mf (mOf (pc0 s)) (g8 5 4 w)
def a542 : Mc := Emvi5.mf (a541 s w) (g8 5 4 w)
def a543 : Mc := Elxi1.mf (a542 s w) (g8 5 4 w)
def a544 : Mc := Einx1.mf (a543 s w) (g8 5 4 w)
def a545 : Mc := Exchg.mf (a544 s w) (g8 5 4 w)
set_option maxRecDepth 100000 in
theorem x8_54 : (Ly.run (cx8 [Emov54, Emvi5, Elxi1, Einx1, Exchg]) 3000 [(4, true), (10, false), (3, true), (2, true), (8, false), (2, true), (3, true), (14, true), (4, true), (36, true), (5, true), (10, true), (4, true), (15, true), (15, true), (10, true)] (st8 (pc0 s) 5 4 w (g8 5 4 w) (l8 5 4 w))).out? = some (t8 (mOf (pc0 s)) (a541 s w) (a542 s w) (a543 s w) (a544 s w) (a545 s w) { mOf (pc0 s) with r5 := s.r4 } { mOf (pc0 s) with r5 := w8 w } (g8 5 4 w) w 1 (Emvi5.grd (a541 s w) (g8 5 4 w)) (Elxi1.grd (a542 s w) (g8 5 4 w)) (Einx1.grd (a543 s w) (g8 5 4 w)) (Exchg.grd (a544 s w) (g8 5 4 w)), .bool true) := by kernel_rfl
theorem y8_54 (hs : s.Ok) (hw : B16 w) (u : List (Bool × Bool)) (hu : u = t8 (mOf (pc0 s)) (a541 s w) (a542 s w) (a543 s w) (a544 s w) (a545 s w) { mOf (pc0 s) with r5 := s.r4 } { mOf (pc0 s) with r5 := w8 w } (g8 5 4 w) w 1 (Emvi5.grd (a541 s w) (g8 5 4 w)) (Elxi1.grd (a542 s w) (g8 5 4 w)) (Einx1.grd (a543 s w) (g8 5 4 w)) (Exchg.grd (a544 s w) (g8 5 4 w))) : trusted u := by
  obtain ⟨⟨q0, q1, q2, q3, q4, q5, q6, q7⟩, qs, qp⟩ := hs
  subst hu
  have e0 := hilo hw
  have e1 := hilo1 (w + 1)
  have n1 := b8hi (w + 1)
  have m1 : a541 s w = ⟨s.r0, s.r1, s.r2, s.r3, s.r4, s.r4, s.r7, s.fs, s.fz, s.fx, s.fp, s.fc, s.sp, 1, s.ie, false⟩ := by kernel_rfl
  have m2 : a542 s w = ⟨s.r0, s.r1, s.r2, s.r3, s.r4, w8 w, s.r7, s.fs, s.fz, s.fx, s.fp, s.fc, s.sp, 3, s.ie, false⟩ := by kernel_rfl
  have m3 : a543 s w = ⟨s.r0, s.r1, w8 (w.fdiv 256), w8 w, s.r4, w8 w, s.r7, s.fs, s.fz, s.fx, s.fp, s.fc, s.sp, 6, s.ie, false⟩ := by kernel_rfl
  have m4 : a544 s w = ⟨s.r0, s.r1, (256 * w8 (w.fdiv 256) + w8 w + 1) % 65536 / 256, (256 * w8 (w.fdiv 256) + w8 w + 1) % 256, s.r4, w8 w, s.r7, s.fs, s.fz, s.fx, s.fp, s.fc, s.sp, 7, s.ie, false⟩ := by kernel_rfl
  have m5 : a545 s w = ⟨s.r0, s.r1, s.r4, w8 w, (256 * w8 (w.fdiv 256) + w8 w + 1) % 65536 / 256, (256 * w8 (w.fdiv 256) + w8 w + 1) % 256, s.r7, s.fs, s.fz, s.fx, s.fp, s.fc, s.sp, 8, s.ie, false⟩ := by kernel_rfl
  have g2 : Emvi5.grd (a541 s w) (g8 5 4 w) = inb (w8 w) := by kernel_rfl
  have g3 : Elxi1.grd (a542 s w) (g8 5 4 w) = (inb (w8 w) && inb (w8 (w.fdiv 256))) := by kernel_rfl
  have g4 : Einx1.grd (a543 s w) (g8 5 4 w) = (inb (w8 (w.fdiv 256)) && inb (w8 w)) := by kernel_rfl
  rw [g2, g3, g4, m1, m2, m3, m4, m5, e0]
  simp [t8, isMem_ok, neM, prM, eqF, Exchg, mOf, pc0, *]
theorem z8_54 (hs : s.Ok) (hw : B16 w) : MWp Try.prog (st8 (pc0 s) 5 4 w (g8 5 4 w) (l8 5 4 w)) (fun u _ => u = .bool true) :=
  MWp.out (cx8_ok (by simp [Emov54_ok, Emvi5_ok, Elxi1_ok, Einx1_ok, Exchg_ok])) 3000 _ (x8_54 s w) (y8_54 s w hs hw _ rfl) (fun _ => rfl)
end
section
variable (s : Sv) (w : Int)
def a551 : Mc := Emov55.mf (mOf (pc0 s)) (g8 5 5 w)
def a552 : Mc := Emvi5.mf (a551 s w) (g8 5 5 w)
def a553 : Mc := Elxi1.mf (a552 s w) (g8 5 5 w)
def a554 : Mc := Einx1.mf (a553 s w) (g8 5 5 w)
def a555 : Mc := Exchg.mf (a554 s w) (g8 5 5 w)
set_option maxRecDepth 100000 in
theorem x8_55 : (Ly.run (cx8 [Emov55, Emvi5, Elxi1, Einx1, Exchg]) 3000 [(4, true), (10, false), (3, true), (2, true), (8, false), (2, true), (3, true), (14, true), (4, true), (36, true), (5, true), (10, true), (4, true), (15, true), (15, true), (10, true)] (st8 (pc0 s) 5 5 w (g8 5 5 w) (l8 5 5 w))).out? = some (t8 (mOf (pc0 s)) (a551 s w) (a552 s w) (a553 s w) (a554 s w) (a555 s w) { mOf (pc0 s) with r5 := s.r5 } { mOf (pc0 s) with r5 := w8 w } (g8 5 5 w) w 1 (Emvi5.grd (a551 s w) (g8 5 5 w)) (Elxi1.grd (a552 s w) (g8 5 5 w)) (Einx1.grd (a553 s w) (g8 5 5 w)) (Exchg.grd (a554 s w) (g8 5 5 w)), .bool true) := by kernel_rfl
theorem y8_55 (hs : s.Ok) (hw : B16 w) (u : List (Bool × Bool)) (hu : u = t8 (mOf (pc0 s)) (a551 s w) (a552 s w) (a553 s w) (a554 s w) (a555 s w) { mOf (pc0 s) with r5 := s.r5 } { mOf (pc0 s) with r5 := w8 w } (g8 5 5 w) w 1 (Emvi5.grd (a551 s w) (g8 5 5 w)) (Elxi1.grd (a552 s w) (g8 5 5 w)) (Einx1.grd (a553 s w) (g8 5 5 w)) (Exchg.grd (a554 s w) (g8 5 5 w))) : trusted u := by
  obtain ⟨⟨q0, q1, q2, q3, q4, q5, q6, q7⟩, qs, qp⟩ := hs
  subst hu
  have e0 := hilo hw
  have e1 := hilo1 (w + 1)
  have n1 := b8hi (w + 1)
  have m1 : a551 s w = ⟨s.r0, s.r1, s.r2, s.r3, s.r4, s.r5, s.r7, s.fs, s.fz, s.fx, s.fp, s.fc, s.sp, 1, s.ie, false⟩ := by kernel_rfl
  have m2 : a552 s w = ⟨s.r0, s.r1, s.r2, s.r3, s.r4, w8 w, s.r7, s.fs, s.fz, s.fx, s.fp, s.fc, s.sp, 3, s.ie, false⟩ := by kernel_rfl
  have m3 : a553 s w = ⟨s.r0, s.r1, w8 (w.fdiv 256), w8 w, s.r4, w8 w, s.r7, s.fs, s.fz, s.fx, s.fp, s.fc, s.sp, 6, s.ie, false⟩ := by kernel_rfl
  have m4 : a554 s w = ⟨s.r0, s.r1, (256 * w8 (w.fdiv 256) + w8 w + 1) % 65536 / 256, (256 * w8 (w.fdiv 256) + w8 w + 1) % 256, s.r4, w8 w, s.r7, s.fs, s.fz, s.fx, s.fp, s.fc, s.sp, 7, s.ie, false⟩ := by kernel_rfl
  have m5 : a555 s w = ⟨s.r0, s.r1, s.r4, w8 w, (256 * w8 (w.fdiv 256) + w8 w + 1) % 65536 / 256, (256 * w8 (w.fdiv 256) + w8 w + 1) % 256, s.r7, s.fs, s.fz, s.fx, s.fp, s.fc, s.sp, 8, s.ie, false⟩ := by kernel_rfl
  have g2 : Emvi5.grd (a551 s w) (g8 5 5 w) = inb (w8 w) := by kernel_rfl
  have g3 : Elxi1.grd (a552 s w) (g8 5 5 w) = (inb (w8 w) && inb (w8 (w.fdiv 256))) := by kernel_rfl
  have g4 : Einx1.grd (a553 s w) (g8 5 5 w) = (inb (w8 (w.fdiv 256)) && inb (w8 w)) := by kernel_rfl
  rw [g2, g3, g4, m1, m2, m3, m4, m5, e0]
  simp [t8, isMem_ok, neM, prM, eqF, Exchg, mOf, pc0, *]
theorem z8_55 (hs : s.Ok) (hw : B16 w) : MWp Try.prog (st8 (pc0 s) 5 5 w (g8 5 5 w) (l8 5 5 w)) (fun u _ => u = .bool true) :=
  MWp.out (cx8_ok (by simp [Emov55_ok, Emvi5_ok, Elxi1_ok, Einx1_ok, Exchg_ok])) 3000 _ (x8_55 s w) (y8_55 s w hs hw _ rfl) (fun _ => rfl)
end
section
variable (s : Sv) (w : Int)
def a571 : Mc := Emov57.mf (mOf (pc0 s)) (g8 5 7 w)
def a572 : Mc := Emvi5.mf (a571 s w) (g8 5 7 w)
def a573 : Mc := Elxi1.mf (a572 s w) (g8 5 7 w)
def a574 : Mc := Einx1.mf (a573 s w) (g8 5 7 w)
def a575 : Mc := Exchg.mf (a574 s w) (g8 5 7 w)
set_option maxRecDepth 100000 in
theorem x8_57 : (Ly.run (cx8 [Emov57, Emvi5, Elxi1, Einx1, Exchg]) 3000 [(4, true), (10, false), (3, true), (2, true), (8, false), (2, true), (3, true), (14, true), (4, true), (36, true), (5, true), (10, true), (4, true), (15, true), (15, true), (10, true)] (st8 (pc0 s) 5 7 w (g8 5 7 w) (l8 5 7 w))).out? = some (t8 (mOf (pc0 s)) (a571 s w) (a572 s w) (a573 s w) (a574 s w) (a575 s w) { mOf (pc0 s) with r5 := s.r7 } { mOf (pc0 s) with r5 := w8 w } (g8 5 7 w) w 1 (Emvi5.grd (a571 s w) (g8 5 7 w)) (Elxi1.grd (a572 s w) (g8 5 7 w)) (Einx1.grd (a573 s w) (g8 5 7 w)) (Exchg.grd (a574 s w) (g8 5 7 w)), .bool true) := by kernel_rfl
theorem y8_57 (hs : s.Ok) (hw : B16 w) (u : List (Bool × Bool)) (hu : u = t8 (mOf (pc0 s)) (a571 s w) (a572 s w) (a573 s w) (a574 s w) (a575 s w) { mOf (pc0 s) with r5 := s.r7 } { mOf (pc0 s) with r5 := w8 w } (g8 5 7 w) w 1 (Emvi5.grd (a571 s w) (g8 5 7 w)) (Elxi1.grd (a572 s w) (g8 5 7 w)) (Einx1.grd (a573 s w) (g8 5 7 w)) (Exchg.grd (a574 s w) (g8 5 7 w))) : trusted u := by
  obtain ⟨⟨q0, q1, q2, q3, q4, q5, q6, q7⟩, qs, qp⟩ := hs
  subst hu
  have e0 := hilo hw
  have e1 := hilo1 (w + 1)
  have n1 := b8hi (w + 1)
  have m1 : a571 s w = ⟨s.r0, s.r1, s.r2, s.r3, s.r4, s.r7, s.r7, s.fs, s.fz, s.fx, s.fp, s.fc, s.sp, 1, s.ie, false⟩ := by kernel_rfl
  have m2 : a572 s w = ⟨s.r0, s.r1, s.r2, s.r3, s.r4, w8 w, s.r7, s.fs, s.fz, s.fx, s.fp, s.fc, s.sp, 3, s.ie, false⟩ := by kernel_rfl
  have m3 : a573 s w = ⟨s.r0, s.r1, w8 (w.fdiv 256), w8 w, s.r4, w8 w, s.r7, s.fs, s.fz, s.fx, s.fp, s.fc, s.sp, 6, s.ie, false⟩ := by kernel_rfl
  have m4 : a574 s w = ⟨s.r0, s.r1, (256 * w8 (w.fdiv 256) + w8 w + 1) % 65536 / 256, (256 * w8 (w.fdiv 256) + w8 w + 1) % 256, s.r4, w8 w, s.r7, s.fs, s.fz, s.fx, s.fp, s.fc, s.sp, 7, s.ie, false⟩ := by kernel_rfl
  have m5 : a575 s w = ⟨s.r0, s.r1, s.r4, w8 w, (256 * w8 (w.fdiv 256) + w8 w + 1) % 65536 / 256, (256 * w8 (w.fdiv 256) + w8 w + 1) % 256, s.r7, s.fs, s.fz, s.fx, s.fp, s.fc, s.sp, 8, s.ie, false⟩ := by kernel_rfl
  have g2 : Emvi5.grd (a571 s w) (g8 5 7 w) = inb (w8 w) := by kernel_rfl
  have g3 : Elxi1.grd (a572 s w) (g8 5 7 w) = (inb (w8 w) && inb (w8 (w.fdiv 256))) := by kernel_rfl
  have g4 : Einx1.grd (a573 s w) (g8 5 7 w) = (inb (w8 (w.fdiv 256)) && inb (w8 w)) := by kernel_rfl
  rw [g2, g3, g4, m1, m2, m3, m4, m5, e0]
  simp [t8, isMem_ok, neM, prM, eqF, Exchg, mOf, pc0, *]
theorem z8_57 (hs : s.Ok) (hw : B16 w) : MWp Try.prog (st8 (pc0 s) 5 7 w (g8 5 7 w) (l8 5 7 w)) (fun u _ => u = .bool true) :=
  MWp.out (cx8_ok (by simp [Emov57_ok, Emvi5_ok, Elxi1_ok, Einx1_ok, Exchg_ok])) 3000 _ (x8_57 s w) (y8_57 s w hs hw _ rfl) (fun _ => rfl)
end
theorem z8d5 (r : Int) (h3 : 0 ≤ r) (h4 : r ≤ 7) (hr6 : r ≠ 6) (s : Sv) (w : Int) (hs : s.Ok) (hw : B16 w) : MWp Try.prog (st8 (pc0 s) 5 r w (g8 5 r w) (l8 5 r w)) (fun u _ => u = .bool true) := by
  have : r = 0 ∨ r = 1 ∨ r = 2 ∨ r = 3 ∨ r = 4 ∨ r = 5 ∨ r = 7 := by omega
  rcases this with rfl | rfl | rfl | rfl | rfl | rfl | rfl
  · exact z8_50 s w hs hw
  · exact z8_51 s w hs hw
  · exact z8_52 s w hs hw
  · exact z8_53 s w hs hw
  · exact z8_54 s w hs hw
  · exact z8_55 s w hs hw
  · exact z8_57 s w hs hw
end Go.Proofs.Ytpggoincnebfnaa
end
