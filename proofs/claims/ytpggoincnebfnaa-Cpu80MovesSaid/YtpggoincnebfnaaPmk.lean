/- Part 11 of the texts that the law needs, laid together. By program (pack.py). -/
import Derived.Test.YtpggoincnebfnaaPmi
import Derived.Test.YtpggoincnebfnaaPmj
import Derived.KernelRfl
set_option linter.unusedVariables false
set_option linter.unusedSimpArgs false
noncomputable section
namespace Go.Proofs.Ytpggoincnebfnaa
open Go Go.Ly Go.RowKit
section
variable (s : Sv) (w : Int)
def a701 : Mc := Emov70.mf (mOf (pc0 s)) (g8 7 0 w)
def a702 : Mc := Emvi7.mf (a701 s w) (g8 7 0 w)
def a703 : Mc := Elxi3.mf (a702 s w) (g8 7 0 w)
def a704 : Mc := Einx3.mf (a703 s w) (g8 7 0 w)
def a705 : Mc := Exchg.mf (a704 s w) (g8 7 0 w)
set_option maxRecDepth 100000 in
theorem x8_70 : (Ly.run (cx8 [Emov70, Emvi7, Elxi3, Einx3, Exchg]) 3000 [(4, true), (10, false), (3, true), (2, true), (8, false), (2, true), (3, true), (11, true), (4, true), (33, true), (5, true), (10, true), (4, true), (15, true), (15, true), (10, true)] (st8 (pc0 s) 7 0 w (g8 7 0 w) (l8 7 0 w))).out? = some (t8 (mOf (pc0 s)) (a701 s w) (a702 s w) (a703 s w) (a704 s w) (a705 s w) { mOf (pc0 s) with r7 := s.r0 } { mOf (pc0 s) with r7 := w8 w } (g8 7 0 w) w 3 (Emvi7.grd (a701 s w) (g8 7 0 w)) (Elxi3.grd (a702 s w) (g8 7 0 w)) (Einx3.grd (a703 s w) (g8 7 0 w)) (Exchg.grd (a704 s w) (g8 7 0 w)), .bool true) := by kernel_rfl
theorem y8_70 (hs : s.Ok) (hw : B16 w) (u : List (Bool × Bool)) (hu : u = t8 (mOf (pc0 s)) (a701 s w) (a702 s w) (a703 s w) (a704 s w) (a705 s w) { mOf (pc0 s) with r7 := s.r0 } { mOf (pc0 s) with r7 := w8 w } (g8 7 0 w) w 3 (Emvi7.grd (a701 s w) (g8 7 0 w)) (Elxi3.grd (a702 s w) (g8 7 0 w)) (Einx3.grd (a703 s w) (g8 7 0 w)) (Exchg.grd (a704 s w) (g8 7 0 w))) : trusted u := by
  obtain ⟨⟨q0, q1, q2, q3, q4, q5, q6, q7⟩, qs, qp⟩ := hs
  subst hu
  have e0 := hilo hw
  have e1 := hilo1 (w + 1)
  have n1 := b8hi (w + 1)
  have m1 : a701 s w = ⟨s.r0, s.r1, s.r2, s.r3, s.r4, s.r5, s.r0, s.fs, s.fz, s.fx, s.fp, s.fc, s.sp, 1, s.ie, false⟩ := by kernel_rfl
  have m2 : a702 s w = ⟨s.r0, s.r1, s.r2, s.r3, s.r4, s.r5, w8 w, s.fs, s.fz, s.fx, s.fp, s.fc, s.sp, 3, s.ie, false⟩ := by kernel_rfl
  have m3 : a703 s w = ⟨s.r0, s.r1, s.r2, s.r3, s.r4, s.r5, w8 w, s.fs, s.fz, s.fx, s.fp, s.fc, 256 * w8 (w.fdiv 256) + w8 w, 6, s.ie, false⟩ := by kernel_rfl
  have m4 : a704 s w = ⟨s.r0, s.r1, s.r2, s.r3, s.r4, s.r5, w8 w, s.fs, s.fz, s.fx, s.fp, s.fc, w16 (256 * w8 (w.fdiv 256) + w8 w + 1), 7, s.ie, false⟩ := by kernel_rfl
  have m5 : a705 s w = ⟨s.r0, s.r1, s.r4, s.r5, s.r2, s.r3, w8 w, s.fs, s.fz, s.fx, s.fp, s.fc, w16 (256 * w8 (w.fdiv 256) + w8 w + 1), 8, s.ie, false⟩ := by kernel_rfl
  have g2 : Emvi7.grd (a701 s w) (g8 7 0 w) = inb (w8 w) := by kernel_rfl
  have g3 : Elxi3.grd (a702 s w) (g8 7 0 w) = (inb (w8 w) && inb (w8 (w.fdiv 256))) := by kernel_rfl
  have g4 : Einx3.grd (a703 s w) (g8 7 0 w) = inw (256 * w8 (w.fdiv 256) + w8 w) := by kernel_rfl
  rw [g2, g3, g4, m1, m2, m3, m4, m5, e0]
  simp [t8, isMem_ok, neM, prM, eqF, Exchg, mOf, pc0, *]
theorem z8_70 (hs : s.Ok) (hw : B16 w) : MWp Try.prog (st8 (pc0 s) 7 0 w (g8 7 0 w) (l8 7 0 w)) (fun u _ => u = .bool true) :=
  MWp.out (cx8_ok (by simp [Emov70_ok, Emvi7_ok, Elxi3_ok, Einx3_ok, Exchg_ok])) 3000 _ (x8_70 s w) (y8_70 s w hs hw _ rfl) (fun _ => rfl)
end
section
variable (s : Sv) (w : Int)
def a711 : Mc := Emov71.mf (mOf (pc0 s)) (g8 7 1 w)
def a712 : Mc := Emvi7.mf (a711 s w) (g8 7 1 w)
def a713 : Mc := Elxi3.mf (a712 s w) (g8 7 1 w)
def a714 : Mc := Einx3.mf (a713 s w) (g8 7 1 w)
def a715 : Mc := Exchg.mf (a714 s w) (g8 7 1 w)
set_option maxRecDepth 100000 in
theorem x8_71 : (Ly.run (cx8 [Emov71, Emvi7, Elxi3, Einx3, Exchg]) 3000 [(4, true), (10, false), (3, true), (2, true), (8, false), (2, true), (3, true), (11, true), (4, true), (33, true), (5, true), (10, true), (4, true), (15, true), (15, true), (10, true)] (st8 (pc0 s) 7 1 w (g8 7 1 w) (l8 7 1 w))).out? = some (t8 (mOf (pc0 s)) (a711 s w) (a712 s w) (a713 s w) (a714 s w) (a715 s w) { mOf (pc0 s) with r7 := s.r1 } { mOf (pc0 s) with r7 := w8 w } (g8 7 1 w) w 3 (Emvi7.grd (a711 s w) (g8 7 1 w)) (Elxi3.grd (a712 s w) (g8 7 1 w)) (Einx3.grd (a713 s w) (g8 7 1 w)) (Exchg.grd (a714 s w) (g8 7 1 w)), .bool true) := by kernel_rfl
theorem y8_71 (hs : s.Ok) (hw : B16 w) (u : List (Bool × Bool)) (hu : u = t8 (mOf (pc0 s)) (a711 s w) (a712 s w) (a713 s w) (a714 s w) (a715 s w) { mOf (pc0 s) with r7 := s.r1 } { mOf (pc0 s) with r7 := w8 w } (g8 7 1 w) w 3 (Emvi7.grd (a711 s w) (g8 7 1 w)) (Elxi3.grd (a712 s w) (g8 7 1 w)) (Einx3.grd (a713 s w) (g8 7 1 w)) (Exchg.grd (a714 s w) (g8 7 1 w))) : trusted u := by
  obtain ⟨⟨q0, q1, q2, q3, q4, q5, q6, q7⟩, qs, qp⟩ := hs
  subst hu
  have e0 := hilo hw
  have e1 := hilo1 (w + 1)
  have n1 := b8hi (w + 1)
  have m1 : a711 s w = ⟨s.r0, s.r1, s.r2, s.r3, s.r4, s.r5, s.r1, s.fs, s.fz, s.fx, s.fp, s.fc, s.sp, 1, s.ie, false⟩ := by kernel_rfl
  have m2 : a712 s w = ⟨s.r0, s.r1, s.r2, s.r3, s.r4, s.r5, w8 w, s.fs, s.fz, s.fx, s.fp, s.fc, s.sp, 3, s.ie, false⟩ := by kernel_rfl
  have m3 : a713 s w = ⟨s.r0, s.r1, s.r2, s.r3, s.r4, s.r5, w8 w, s.fs, s.fz, s.fx, s.fp, s.fc, 256 * w8 (w.fdiv 256) + w8 w, 6, s.ie, false⟩ := by kernel_rfl
  have m4 : a714 s w = ⟨s.r0, s.r1, s.r2, s.r3, s.r4, s.r5, w8 w, s.fs, s.fz, s.fx, s.fp, s.fc, w16 (256 * w8 (w.fdiv 256) + w8 w + 1), 7, s.ie, false⟩ := by kernel_rfl
  have m5 : a715 s w = ⟨s.r0, s.r1, s.r4, s.r5, s.r2, s.r3, w8 w, s.fs, s.fz, s.fx, s.fp, s.fc, w16 (256 * w8 (w.fdiv 256) + w8 w + 1), 8, s.ie, false⟩ := by kernel_rfl
  have g2 : Emvi7.grd (a711 s w) (g8 7 1 w) = inb (w8 w) := by kernel_rfl
  have g3 : Elxi3.grd (a712 s w) (g8 7 1 w) = (inb (w8 w) && inb (w8 (w.fdiv 256))) := by kernel_rfl
  have g4 : Einx3.grd (a713 s w) (g8 7 1 w) = inw (256 * w8 (w.fdiv 256) + w8 w) := by kernel_rfl
  rw [g2, g3, g4, m1, m2, m3, m4, m5, e0]
  simp [t8, isMem_ok, neM, prM, eqF, Exchg, mOf, pc0, *]
theorem z8_71 (hs : s.Ok) (hw : B16 w) : MWp Try.prog (st8 (pc0 s) 7 1 w (g8 7 1 w) (l8 7 1 w)) (fun u _ => u = .bool true) :=
  MWp.out (cx8_ok (by simp [Emov71_ok, Emvi7_ok, Elxi3_ok, Einx3_ok, Exchg_ok])) 3000 _ (x8_71 s w) (y8_71 s w hs hw _ rfl) (fun _ => rfl)
end
section
variable (s : Sv) (w : Int)
def a721 : Mc := Emov72.mf (mOf (pc0 s)) (g8 7 2 w)
def a722 : Mc := Emvi7.mf (a721 s w) (g8 7 2 w)
def a723 : Mc := Elxi3.mf (a722 s w) (g8 7 2 w)
def a724 : Mc := Einx3.mf (a723 s w) (g8 7 2 w)
def a725 : Mc := Exchg.mf (a724 s w) (g8 7 2 w)
set_option maxRecDepth 100000 in
theorem x8_72 : (Ly.run (cx8 [Emov72, Emvi7, Elxi3, Einx3, Exchg]) 3000 [(4, true), (10, false), (3, true), (2, true), (8, false), (2, true), (3, true), (11, true), (4, true), (33, true), (5, true), (10, true), (4, true), (15, true), (15, true), (10, true)] (st8 (pc0 s) 7 2 w (g8 7 2 w) (l8 7 2 w))).out? = some (t8 (mOf (pc0 s)) (a721 s w) (a722 s w) (a723 s w) (a724 s w) (a725 s w) { mOf (pc0 s) with r7 := s.r2 } { mOf (pc0 s) with r7 := w8 w } (g8 7 2 w) w 3 (Emvi7.grd (a721 s w) (g8 7 2 w)) (Elxi3.grd (a722 s w) (g8 7 2 w)) (Einx3.grd (a723 s w) (g8 7 2 w)) (Exchg.grd (a724 s w) (g8 7 2 w)), .bool true) := by kernel_rfl
theorem y8_72 (hs : s.Ok) (hw : B16 w) (u : List (Bool × Bool)) (hu : u = t8 (mOf (pc0 s)) (a721 s w) (a722 s w) (a723 s w) (a724 s w) (a725 s w) { mOf (pc0 s) with r7 := s.r2 } { mOf (pc0 s) with r7 := w8 w } (g8 7 2 w) w 3 (Emvi7.grd (a721 s w) (g8 7 2 w)) (Elxi3.grd (a722 s w) (g8 7 2 w)) (Einx3.grd (a723 s w) (g8 7 2 w)) (Exchg.grd (a724 s w) (g8 7 2 w))) : trusted u := by
  obtain ⟨⟨q0, q1, q2, q3, q4, q5, q6, q7⟩, qs, qp⟩ := hs
  subst hu
  have e0 := hilo hw
  have e1 := hilo1 (w + 1)
  have n1 := b8hi (w + 1)
  have m1 : a721 s w = ⟨s.r0, s.r1, s.r2, s.r3, s.r4, s.r5, s.r2, s.fs, s.fz, s.fx, s.fp, s.fc, s.sp, 1, s.ie, false⟩ := by kernel_rfl
  have m2 : a722 s w = ⟨s.r0, s.r1, s.r2, s.r3, s.r4, s.r5, w8 w, s.fs, s.fz, s.fx, s.fp, s.fc, s.sp, 3, s.ie, false⟩ := by kernel_rfl
  have m3 : a723 s w = ⟨s.r0, s.r1, s.r2, s.r3, s.r4, s.r5, w8 w, s.fs, s.fz, s.fx, s.fp, s.fc, 256 * w8 (w.fdiv 256) + w8 w, 6, s.ie, false⟩ := by kernel_rfl
  have m4 : a724 s w = ⟨s.r0, s.r1, s.r2, s.r3, s.r4, s.r5, w8 w, s.fs, s.fz, s.fx, s.fp, s.fc, w16 (256 * w8 (w.fdiv 256) + w8 w + 1), 7, s.ie, false⟩ := by kernel_rfl
  have m5 : a725 s w = ⟨s.r0, s.r1, s.r4, s.r5, s.r2, s.r3, w8 w, s.fs, s.fz, s.fx, s.fp, s.fc, w16 (256 * w8 (w.fdiv 256) + w8 w + 1), 8, s.ie, false⟩ := by kernel_rfl
  have g2 : Emvi7.grd (a721 s w) (g8 7 2 w) = inb (w8 w) := by kernel_rfl
  have g3 : Elxi3.grd (a722 s w) (g8 7 2 w) = (inb (w8 w) && inb (w8 (w.fdiv 256))) := by kernel_rfl
  have g4 : Einx3.grd (a723 s w) (g8 7 2 w) = inw (256 * w8 (w.fdiv 256) + w8 w) := by kernel_rfl
  rw [g2, g3, g4, m1, m2, m3, m4, m5, e0]
  simp [t8, isMem_ok, neM, prM, eqF, Exchg, mOf, pc0, *]
theorem z8_72 (hs : s.Ok) (hw : B16 w) : MWp Try.prog (st8 (pc0 s) 7 2 w (g8 7 2 w) (l8 7 2 w)) (fun u _ => u = .bool true) :=
  MWp.out (cx8_ok (by simp [Emov72_ok, Emvi7_ok, Elxi3_ok, Einx3_ok, Exchg_ok])) 3000 _ (x8_72 s w) (y8_72 s w hs hw _ rfl) (fun _ => rfl)
end
section
variable (s : Sv) (w : Int)
def a731 : Mc := Emov73.mf (mOf (pc0 s)) (g8 7 3 w)
def a732 : Mc := Emvi7.mf (a731 s w) (g8 7 3 w)
def a733 : Mc := Elxi3.mf (a732 s w) (g8 7 3 w)
def a734 : Mc := Einx3.mf (a733 s w) (g8 7 3 w)
def a735 : Mc := Exchg.mf (a734 s w) (g8 7 3 w)
set_option maxRecDepth 100000 in
theorem x8_73 : (Ly.run (cx8 [Emov73, Emvi7, Elxi3, Einx3, Exchg]) 3000 [(4, true), (10, false), (3, true), (2, true), (8, false), (2, true), (3, true), (11, true), (4, true), (33, true), (5, true), (10, true), (4, true), (15, true), (15, true), (10, true)] (st8 (pc0 s) 7 3 w (g8 7 3 w) (l8 7 3 w))).out? = some (t8 (mOf (pc0 s)) (a731 s w) (a732 s w) (a733 s w) (a734 s w) (a735 s w) { mOf (pc0 s) with r7 := s.r3 } { mOf (pc0 s) with r7 := w8 w } (g8 7 3 w) w 3 (Emvi7.grd (a731 s w) (g8 7 3 w)) (Elxi3.grd (a732 s w) (g8 7 3 w)) (Einx3.grd (a733 s w) (g8 7 3 w)) (Exchg.grd (a734 s w) (g8 7 3 w)), .bool true) := by kernel_rfl
theorem y8_73 (hs : s.Ok) (hw : B16 w) (u : List (Bool × Bool)) (hu : u = t8 (mOf (pc0 s)) (a731 s w) (a732 s w) (a733 s w) (a734 s w) (a735 s w) { mOf (pc0 s) with r7 := s.r3 } { mOf (pc0 s) with r7 := w8 w } (g8 7 3 w) w 3 (Emvi7.grd (a731 s w) (g8 7 3 w)) (Elxi3.grd (a732 s w) (g8 7 3 w)) (Einx3.grd (a733 s w) (g8 7 3 w)) (Exchg.grd (a734 s w) (g8 7 3 w))) : trusted u := by
  obtain ⟨⟨q0, q1, q2, q3, q4, q5, q6, q7⟩, qs, qp⟩ := hs
  subst hu
  have e0 := hilo hw
  have e1 := hilo1 (w + 1)
  have n1 := b8hi (w + 1)
  have m1 : a731 s w = ⟨s.r0, s.r1, s.r2, s.r3, s.r4, s.r5, s.r3, s.fs, s.fz, s.fx, s.fp, s.fc, s.sp, 1, s.ie, false⟩ := by kernel_rfl
  have m2 : a732 s w = ⟨s.r0, s.r1, s.r2, s.r3, s.r4, s.r5, w8 w, s.fs, s.fz, s.fx, s.fp, s.fc, s.sp, 3, s.ie, false⟩ := by kernel_rfl
  have m3 : a733 s w = ⟨s.r0, s.r1, s.r2, s.r3, s.r4, s.r5, w8 w, s.fs, s.fz, s.fx, s.fp, s.fc, 256 * w8 (w.fdiv 256) + w8 w, 6, s.ie, false⟩ := by kernel_rfl
  have m4 : a734 s w = ⟨s.r0, s.r1, s.r2, s.r3, s.r4, s.r5, w8 w, s.fs, s.fz, s.fx, s.fp, s.fc, w16 (256 * w8 (w.fdiv 256) + w8 w + 1), 7, s.ie, false⟩ := by kernel_rfl
  have m5 : a735 s w = ⟨s.r0, s.r1, s.r4, s.r5, s.r2, s.r3, w8 w, s.fs, s.fz, s.fx, s.fp, s.fc, w16 (256 * w8 (w.fdiv 256) + w8 w + 1), 8, s.ie, false⟩ := by kernel_rfl
  have g2 : Emvi7.grd (a731 s w) (g8 7 3 w) = inb (w8 w) := by kernel_rfl
  have g3 : Elxi3.grd (a732 s w) (g8 7 3 w) = (inb (w8 w) && inb (w8 (w.fdiv 256))) := by kernel_rfl
  have g4 : Einx3.grd (a733 s w) (g8 7 3 w) = inw (256 * w8 (w.fdiv 256) + w8 w) := by kernel_rfl
  rw [g2, g3, g4, m1, m2, m3, m4, m5, e0]
  simp [t8, isMem_ok, neM, prM, eqF, Exchg, mOf, pc0, *]
theorem z8_73 (hs : s.Ok) (hw : B16 w) : MWp Try.prog (st8 (pc0 s) 7 3 w (g8 7 3 w) (l8 7 3 w)) (fun u _ => u = .bool true) :=
  MWp.out (cx8_ok (by simp [Emov73_ok, Emvi7_ok, Elxi3_ok, Einx3_ok, Exchg_ok])) 3000 _ (x8_73 s w) (y8_73 s w hs hw _ rfl) (fun _ => rfl)
end
section
variable (s : Sv) (w : Int)
def a741 : Mc := Emov74.mf (mOf (pc0 s)) (g8 7 4 w)
def a742 : Mc := Emvi7.mf (a741 s w) (g8 7 4 w)
def a743 : Mc := Elxi3.mf (a742 s w) (g8 7 4 w)
def a744 : Mc := Einx3.mf (a743 s w) (g8 7 4 w)
def a745 : Mc := Exchg.mf (a744 s w) (g8 7 4 w)
set_option maxRecDepth 100000 in
theorem x8_74 : (Ly.run (cx8 [Emov74, Emvi7, Elxi3, Einx3, Exchg]) 3000 [(4, true), (10, false), (3, true), (2, true), (8, false), (2, true), (3, true), (11, true), (4, true), (33, true), (5, true), (10, true), (4, true), (15, true), (15, true), (10, true)] (st8 (pc0 s) 7 4 w (g8 7 4 w) (l8 7 4 w))).out? = some (t8 (mOf (pc0 s)) (a741 s w) (a742 s w) (a743 s w) (a744 s w) (a745 s w) { mOf (pc0 s) with r7 := s.r4 } { mOf (pc0 s) with r7 := w8 w } (g8 7 4 w) w 3 (Emvi7.grd (a741 s w) (g8 7 4 w)) (Elxi3.grd (a742 s w) (g8 7 4 w)) (Einx3.grd (a743 s w) (g8 7 4 w)) (Exchg.grd (a744 s w) (g8 7 4 w)), .bool true) := by kernel_rfl
theorem y8_74 (hs : s.Ok) (hw : B16 w) (u : List (Bool × Bool)) (hu : u = t8 (mOf (pc0 s)) (a741 s w) (a742 s w) (a743 s w) (a744 s w) (a745 s w) { mOf (pc0 s) with r7 := s.r4 } { mOf (pc0 s) with r7 := w8 w } (g8 7 4 w) w 3 (Emvi7.grd (a741 s w) (g8 7 4 w)) (Elxi3.grd (a742 s w) (g8 7 4 w)) (Einx3.grd (a743 s w) (g8 7 4 w)) (Exchg.grd (a744 s w) (g8 7 4 w))) : trusted u := by
  obtain ⟨⟨q0, q1, q2, q3, q4, q5, q6, q7⟩, qs, qp⟩ := hs
  subst hu
  have e0 := hilo hw
  have e1 := hilo1 (w + 1)
  have n1 := b8hi (w + 1)
  have m1 : a741 s w = ⟨s.r0, s.r1, s.r2, s.r3, s.r4, s.r5, s.r4, s.fs, s.fz, s.fx, s.fp, s.fc, s.sp, 1, s.ie, false⟩ := by kernel_rfl
  have m2 : a742 s w = ⟨s.r0, s.r1, s.r2, s.r3, s.r4, s.r5, w8 w, s.fs, s.fz, s.fx, s.fp, s.fc, s.sp, 3, s.ie, false⟩ := by kernel_rfl
  have m3 : a743 s w = ⟨s.r0, s.r1, s.r2, s.r3, s.r4, s.r5, w8 w, s.fs, s.fz, s.fx, s.fp, s.fc, 256 * w8 (w.fdiv 256) + w8 w, 6, s.ie, false⟩ := by kernel_rfl
  have m4 : a744 s w = ⟨s.r0, s.r1, s.r2, s.r3, s.r4, s.r5, w8 w, s.fs, s.fz, s.fx, s.fp, s.fc, w16 (256 * w8 (w.fdiv 256) + w8 w + 1), 7, s.ie, false⟩ := by kernel_rfl
  have m5 : a745 s w = ⟨s.r0, s.r1, s.r4, s.r5, s.r2, s.r3, w8 w, s.fs, s.fz, s.fx, s.fp, s.fc, w16 (256 * w8 (w.fdiv 256) + w8 w + 1), 8, s.ie, false⟩ := by kernel_rfl
  have g2 : Emvi7.grd (a741 s w) (g8 7 4 w) = inb (w8 w) := by kernel_rfl
  have g3 : Elxi3.grd (a742 s w) (g8 7 4 w) = (inb (w8 w) && inb (w8 (w.fdiv 256))) := by kernel_rfl
  have g4 : Einx3.grd (a743 s w) (g8 7 4 w) = inw (256 * w8 (w.fdiv 256) + w8 w) := by kernel_rfl
  rw [g2, g3, g4, m1, m2, m3, m4, m5, e0]
  simp [t8, isMem_ok, neM, prM, eqF, Exchg, mOf, pc0, *]
theorem z8_74 (hs : s.Ok) (hw : B16 w) : MWp Try.prog (st8 (pc0 s) 7 4 w (g8 7 4 w) (l8 7 4 w)) (fun u _ => u = .bool true) :=
  MWp.out (cx8_ok (by simp [Emov74_ok, Emvi7_ok, Elxi3_ok, Einx3_ok, Exchg_ok])) 3000 _ (x8_74 s w) (y8_74 s w hs hw _ rfl) (fun _ => rfl)
end
section
variable (s : Sv) (w : Int)
def a751 : Mc := Emov75.mf (mOf (pc0 s)) (g8 7 5 w)
def a752 : Mc := Emvi7.mf (a751 s w) (g8 7 5 w)
def a753 : Mc := Elxi3.mf (a752 s w) (g8 7 5 w)
def a754 : Mc := Einx3.mf (a753 s w) (g8 7 5 w)
def a755 : Mc := Exchg.mf (a754 s w) (g8 7 5 w)
set_option maxRecDepth 100000 in
theorem x8_75 : (Ly.run (cx8 [Emov75, Emvi7, Elxi3, Einx3, Exchg]) 3000 [(4, true), (10, false), (3, true), (2, true), (8, false), (2, true), (3, true), (11, true), (4, true), (33, true), (5, true), (10, true), (4, true), (15, true), (15, true), (10, true)] (st8 (pc0 s) 7 5 w (g8 7 5 w) (l8 7 5 w))).out? = some (t8 (mOf (pc0 s)) (a751 s w) (a752 s w) (a753 s w) (a754 s w) (a755 s w) { mOf (pc0 s) with r7 := s.r5 } { mOf (pc0 s) with r7 := w8 w } (g8 7 5 w) w 3 (Emvi7.grd (a751 s w) (g8 7 5 w)) (Elxi3.grd (a752 s w) (g8 7 5 w)) (Einx3.grd (a753 s w) (g8 7 5 w)) (Exchg.grd (a754 s w) (g8 7 5 w)), .bool true) := by kernel_rfl
theorem y8_75 (hs : s.Ok) (hw : B16 w) (u : List (Bool × Bool)) (hu : u = t8 (mOf (pc0 s)) (a751 s w) (a752 s w) (a753 s w) (a754 s w) (a755 s w) { mOf (pc0 s) with r7 := s.r5 } { mOf (pc0 s) with r7 := w8 w } (g8 7 5 w) w 3 (Emvi7.grd (a751 s w) (g8 7 5 w)) (Elxi3.grd (a752 s w) (g8 7 5 w)) (Einx3.grd (a753 s w) (g8 7 5 w)) (Exchg.grd (a754 s w) (g8 7 5 w))) : trusted u := by
  obtain ⟨⟨q0, q1, q2, q3, q4, q5, q6, q7⟩, qs, qp⟩ := hs
  subst hu
  have e0 := hilo hw
  have e1 := hilo1 (w + 1)
  have n1 := b8hi (w + 1)
  have m1 : a751 s w = ⟨s.r0, s.r1, s.r2, s.r3, s.r4, s.r5, s.r5, s.fs, s.fz, s.fx, s.fp, s.fc, s.sp, 1, s.ie, false⟩ := by kernel_rfl
  have m2 : a752 s w = ⟨s.r0, s.r1, s.r2, s.r3, s.r4, s.r5, w8 w, s.fs, s.fz, s.fx, s.fp, s.fc, s.sp, 3, s.ie, false⟩ := by kernel_rfl
  have m3 : a753 s w = ⟨s.r0, s.r1, s.r2, s.r3, s.r4, s.r5, w8 w, s.fs, s.fz, s.fx, s.fp, s.fc, 256 * w8 (w.fdiv 256) + w8 w, 6, s.ie, false⟩ := by kernel_rfl
  have m4 : a754 s w = ⟨s.r0, s.r1, s.r2, s.r3, s.r4, s.r5, w8 w, s.fs, s.fz, s.fx, s.fp, s.fc, w16 (256 * w8 (w.fdiv 256) + w8 w + 1), 7, s.ie, false⟩ := by kernel_rfl
  have m5 : a755 s w = ⟨s.r0, s.r1, s.r4, s.r5, s.r2, s.r3, w8 w, s.fs, s.fz, s.fx, s.fp, s.fc, w16 (256 * w8 (w.fdiv 256) + w8 w + 1), 8, s.ie, false⟩ := by kernel_rfl
  have g2 : Emvi7.grd (a751 s w) (g8 7 5 w) = inb (w8 w) := by kernel_rfl
  have g3 : Elxi3.grd (a752 s w) (g8 7 5 w) = (inb (w8 w) && inb (w8 (w.fdiv 256))) := by kernel_rfl
  have g4 : Einx3.grd (a753 s w) (g8 7 5 w) = inw (256 * w8 (w.fdiv 256) + w8 w) := by kernel_rfl
  rw [g2, g3, g4, m1, m2, m3, m4, m5, e0]
  simp [t8, isMem_ok, neM, prM, eqF, Exchg, mOf, pc0, *]
theorem z8_75 (hs : s.Ok) (hw : B16 w) : MWp Try.prog (st8 (pc0 s) 7 5 w (g8 7 5 w) (l8 7 5 w)) (fun u _ => u = .bool true) :=
  MWp.out (cx8_ok (by simp [Emov75_ok, Emvi7_ok, Elxi3_ok, Einx3_ok, Exchg_ok])) 3000 _ (x8_75 s w) (y8_75 s w hs hw _ rfl) (fun _ => rfl)
end
section
variable (s : Sv) (w : Int)
def a771 : Mc := Emov77.mf (mOf (pc0 s)) (g8 7 7 w)
def a772 : Mc := Emvi7.mf (a771 s w) (g8 7 7 w)
def a773 : Mc := Elxi3.mf (a772 s w) (g8 7 7 w)
def a774 : Mc := Einx3.mf (a773 s w) (g8 7 7 w)
def a775 : Mc := Exchg.mf (a774 s w) (g8 7 7 w)
set_option maxRecDepth 100000 in
theorem x8_77 : (Ly.run (cx8 [Emov77, Emvi7, Elxi3, Einx3, Exchg]) 3000 [(4, true), (10, false), (3, true), (2, true), (8, false), (2, true), (3, true), (11, true), (4, true), (33, true), (5, true), (10, true), (4, true), (15, true), (15, true), (10, true)] (st8 (pc0 s) 7 7 w (g8 7 7 w) (l8 7 7 w))).out? = some (t8 (mOf (pc0 s)) (a771 s w) (a772 s w) (a773 s w) (a774 s w) (a775 s w) { mOf (pc0 s) with r7 := s.r7 } { mOf (pc0 s) with r7 := w8 w } (g8 7 7 w) w 3 (Emvi7.grd (a771 s w) (g8 7 7 w)) (Elxi3.grd (a772 s w) (g8 7 7 w)) (Einx3.grd (a773 s w) (g8 7 7 w)) (Exchg.grd (a774 s w) (g8 7 7 w)), .bool true) := by kernel_rfl
theorem y8_77 (hs : s.Ok) (hw : B16 w) (u : List (Bool × Bool)) (hu : u = t8 (mOf (pc0 s)) (a771 s w) (a772 s w) (a773 s w) (a774 s w) (a775 s w) { mOf (pc0 s) with r7 := s.r7 } { mOf (pc0 s) with r7 := w8 w } (g8 7 7 w) w 3 (Emvi7.grd (a771 s w) (g8 7 7 w)) (Elxi3.grd (a772 s w) (g8 7 7 w)) (Einx3.grd (a773 s w) (g8 7 7 w)) (Exchg.grd (a774 s w) (g8 7 7 w))) : trusted u := by
  obtain ⟨⟨q0, q1, q2, q3, q4, q5, q6, q7⟩, qs, qp⟩ := hs
  subst hu
  have e0 := hilo hw
  have e1 := hilo1 (w + 1)
  have n1 := b8hi (w + 1)
  have m1 : a771 s w = ⟨s.r0, s.r1, s.r2, s.r3, s.r4, s.r5, s.r7, s.fs, s.fz, s.fx, s.fp, s.fc, s.sp, 1, s.ie, false⟩ := by kernel_rfl
  have m2 : a772 s w = ⟨s.r0, s.r1, s.r2, s.r3, s.r4, s.r5, w8 w, s.fs, s.fz, s.fx, s.fp, s.fc, s.sp, 3, s.ie, false⟩ := by kernel_rfl
  have m3 : a773 s w = ⟨s.r0, s.r1, s.r2, s.r3, s.r4, s.r5, w8 w, s.fs, s.fz, s.fx, s.fp, s.fc, 256 * w8 (w.fdiv 256) + w8 w, 6, s.ie, false⟩ := by kernel_rfl
  have m4 : a774 s w = ⟨s.r0, s.r1, s.r2, s.r3, s.r4, s.r5, w8 w, s.fs, s.fz, s.fx, s.fp, s.fc, w16 (256 * w8 (w.fdiv 256) + w8 w + 1), 7, s.ie, false⟩ := by kernel_rfl
  have m5 : a775 s w = ⟨s.r0, s.r1, s.r4, s.r5, s.r2, s.r3, w8 w, s.fs, s.fz, s.fx, s.fp, s.fc, w16 (256 * w8 (w.fdiv 256) + w8 w + 1), 8, s.ie, false⟩ := by kernel_rfl
  have g2 : Emvi7.grd (a771 s w) (g8 7 7 w) = inb (w8 w) := by kernel_rfl
  have g3 : Elxi3.grd (a772 s w) (g8 7 7 w) = (inb (w8 w) && inb (w8 (w.fdiv 256))) := by kernel_rfl
  have g4 : Einx3.grd (a773 s w) (g8 7 7 w) = inw (256 * w8 (w.fdiv 256) + w8 w) := by kernel_rfl
  rw [g2, g3, g4, m1, m2, m3, m4, m5, e0]
  simp [t8, isMem_ok, neM, prM, eqF, Exchg, mOf, pc0, *]
theorem z8_77 (hs : s.Ok) (hw : B16 w) : MWp Try.prog (st8 (pc0 s) 7 7 w (g8 7 7 w) (l8 7 7 w)) (fun u _ => u = .bool true) :=
  MWp.out (cx8_ok (by simp [Emov77_ok, Emvi7_ok, Elxi3_ok, Einx3_ok, Exchg_ok])) 3000 _ (x8_77 s w) (y8_77 s w hs hw _ rfl) (fun _ => rfl)
end
theorem z8d7 (r : Int) (h3 : 0 ≤ r) (h4 : r ≤ 7) (hr6 : r ≠ 6) (s : Sv) (w : Int) (hs : s.Ok) (hw : B16 w) : MWp Try.prog (st8 (pc0 s) 7 r w (g8 7 r w) (l8 7 r w)) (fun u _ => u = .bool true) := by
  have : r = 0 ∨ r = 1 ∨ r = 2 ∨ r = 3 ∨ r = 4 ∨ r = 5 ∨ r = 7 := by omega
  rcases this with rfl | rfl | rfl | rfl | rfl | rfl | rfl
  · exact z8_70 s w hs hw
  · exact z8_71 s w hs hw
  · exact z8_72 s w hs hw
  · exact z8_73 s w hs hw
  · exact z8_74 s w hs hw
  · exact z8_75 s w hs hw
  · exact z8_77 s w hs hw
end Go.Proofs.Ytpggoincnebfnaa
namespace Go.Proofs.Ytpggoincnebfnaa
open Go Go.Ly Go.RowKit
theorem tail8 : Tail8 := by
  intro s d r w hs hw h1 h2 hd6 h3 h4 hr6 hp
  have es : s = pc0 s := by cases s; simp only at hp; subst hp; rfl
  rw [es]
  have hs' : Sv.Ok (pc0 s) := by rw [← es]; exact hs
  have : d = 0 ∨ d = 1 ∨ d = 2 ∨ d = 3 ∨ d = 4 ∨ d = 5 ∨ d = 7 := by omega
  rcases this with rfl | rfl | rfl | rfl | rfl | rfl | rfl
  · exact z8d0 r h3 h4 hr6 s w hs hw
  · exact z8d1 r h3 h4 hr6 s w hs hw
  · exact z8d2 r h3 h4 hr6 s w hs hw
  · exact z8d3 r h3 h4 hr6 s w hs hw
  · exact z8d4 r h3 h4 hr6 s w hs hw
  · exact z8d5 r h3 h4 hr6 s w hs hw
  · exact z8d7 r h3 h4 hr6 s w hs hw
theorem tD_no {d : Int} (h : 7 < d) : trusted [((tD d).1, false)] := ⟨by show (decide (7 < d) == false) = false; rw [decide_eq_true h]; rfl, trivial⟩
theorem tE_no {d : Int} (h : d = 6) : trusted [((tE d).1, false)] := ⟨by subst h; rfl, trivial⟩
theorem tMe8_no {n : Nat} (h : ¬ n + 1 ≤ 256) : trusted [((tMe n).1, false)] := ⟨by show (decide ((256 : Int) < ((n + 1 : Nat) : Int)) == false) = false; rw [decide_eq_true (by omega)]; rfl, trivial⟩
theorem tLi8_no {n : Nat} (h : ¬ n + 1 ≤ 300) : trusted [((tLi n).1, false)] := ⟨by show (decide (((n + 1 : Nat) : Int) ≤ 300) == true) = false; rw [decide_eq_false (by omega)]; rfl, trivial⟩
theorem tLn8_no {k : Nat} (h : ¬ k + 1 ≤ 300) : trusted [((tLn8 k).1, false)] := ⟨by show ((!(decide (((k + 1 : Nat) : Int) ≤ 300))) == false) = false; rw [decide_eq_false (by omega)]; rfl, trivial⟩
def tPc (s : Sv) : Bool × Bool := (s.pc != 0, true)
theorem tPc_ok {s : Sv} (h : s.pc ≠ 0) : trusted [tPc s] := ⟨by show (s.pc != 0) = true; simp [h], trivial⟩
theorem q8_NN0 (s : Sv) (n k : Nat) (f fa fb : Nat → Int) (d r w : Int) : endsAt [] (Ly.run ctxO 9000 [(13, false)] (Ly.start Try.f8 [svV s nilS nilS, .int .u8 d, .int .u8 r, .int .u16 w] (mkH [some (ints .u8 f n), some (bytes2 fa fb k)]))) = some ([((tD d).1, false)], .bool true, 4, []) := by kernel_rfl
theorem q8_NN1 (s : Sv) (n k : Nat) (f fa fb : Nat → Int) (d r w : Int) : endsAt [] (Ly.run ctxO 9000 [(13, true), (2, false)] (Ly.start Try.f8 [svV s nilS nilS, .int .u8 d, .int .u8 r, .int .u16 w] (mkH [some (ints .u8 f n), some (bytes2 fa fb k)]))) = some ([tD d, ((tD r).1, false)], .bool true, 4, []) := by kernel_rfl
theorem q8_NN2 (s : Sv) (n k : Nat) (f fa fb : Nat → Int) (d r w : Int) : endsAt [] (Ly.run ctxO 9000 [(13, true), (2, true), (2, false)] (Ly.start Try.f8 [svV s nilS nilS, .int .u8 d, .int .u8 r, .int .u16 w] (mkH [some (ints .u8 f n), some (bytes2 fa fb k)]))) = some ([tD d, tD r, ((tE d).1, false)], .bool true, 4, []) := by kernel_rfl
theorem q8_NN3 (s : Sv) (n k : Nat) (f fa fb : Nat → Int) (d r w : Int) : endsAt [] (Ly.run ctxO 9000 [(13, true), (2, true), (2, true), (2, false)] (Ly.start Try.f8 [svV s nilS nilS, .int .u8 d, .int .u8 r, .int .u16 w] (mkH [some (ints .u8 f n), some (bytes2 fa fb k)]))) = some ([tD d, tD r, tE d, ((tE r).1, false)], .bool true, 4, []) := by kernel_rfl
theorem q8_NNp (s : Sv) (n k : Nat) (f fa fb : Nat → Int) (d r w : Int) : endsAt [] (Ly.run ctxO 9000 [(13, true), (2, true), (2, true), (2, true), (3, true)] (Ly.start Try.f8 [svV s nilS nilS, .int .u8 d, .int .u8 r, .int .u16 w] (mkH [some (ints .u8 f n), some (bytes2 fa fb k)]))) = some ([tD d, tD r, tE d, tE r, tPc s], .bool true, 4, []) := by kernel_rfl
theorem q8_NE0 (s : Sv) (n k : Nat) (f fa fb : Nat → Int) (d r w : Int) : endsAt [] (Ly.run ctxO 9000 [(13, false)] (Ly.start Try.f8 [svV s nilS (sls 1 0), .int .u8 d, .int .u8 r, .int .u16 w] (mkH [some (ints .u8 f n), some (bytes2 fa fb 0)]))) = some ([((tD d).1, false)], .bool true, 4, []) := by kernel_rfl
theorem q8_NE1 (s : Sv) (n k : Nat) (f fa fb : Nat → Int) (d r w : Int) : endsAt [] (Ly.run ctxO 9000 [(13, true), (2, false)] (Ly.start Try.f8 [svV s nilS (sls 1 0), .int .u8 d, .int .u8 r, .int .u16 w] (mkH [some (ints .u8 f n), some (bytes2 fa fb 0)]))) = some ([tD d, ((tD r).1, false)], .bool true, 4, []) := by kernel_rfl
theorem q8_NE2 (s : Sv) (n k : Nat) (f fa fb : Nat → Int) (d r w : Int) : endsAt [] (Ly.run ctxO 9000 [(13, true), (2, true), (2, false)] (Ly.start Try.f8 [svV s nilS (sls 1 0), .int .u8 d, .int .u8 r, .int .u16 w] (mkH [some (ints .u8 f n), some (bytes2 fa fb 0)]))) = some ([tD d, tD r, ((tE d).1, false)], .bool true, 4, []) := by kernel_rfl
theorem q8_NE3 (s : Sv) (n k : Nat) (f fa fb : Nat → Int) (d r w : Int) : endsAt [] (Ly.run ctxO 9000 [(13, true), (2, true), (2, true), (2, false)] (Ly.start Try.f8 [svV s nilS (sls 1 0), .int .u8 d, .int .u8 r, .int .u16 w] (mkH [some (ints .u8 f n), some (bytes2 fa fb 0)]))) = some ([tD d, tD r, tE d, ((tE r).1, false)], .bool true, 4, []) := by kernel_rfl
theorem q8_NEp (s : Sv) (n k : Nat) (f fa fb : Nat → Int) (d r w : Int) : endsAt [] (Ly.run ctxO 9000 [(13, true), (2, true), (2, true), (2, true), (3, true)] (Ly.start Try.f8 [svV s nilS (sls 1 0), .int .u8 d, .int .u8 r, .int .u16 w] (mkH [some (ints .u8 f n), some (bytes2 fa fb 0)]))) = some ([tD d, tD r, tE d, tE r, tPc s], .bool true, 4, []) := by kernel_rfl
theorem q8_NR0 (s : Sv) (n k : Nat) (f fa fb : Nat → Int) (d r w : Int) : endsAt [] (Ly.run ctxO 9000 [(5, false)] (Ly.start Try.f8 [svV s nilS (sls 1 (k + 1)), .int .u8 d, .int .u8 r, .int .u16 w] (mkH [some (ints .u8 f n), some (bytes2 fa fb (k + 1))]))) = some ([((tLn8 k).1, false)], .bool true, 4, []) := by kernel_rfl
theorem q8_NR1 (s : Sv) (n k : Nat) (f fa fb : Nat → Int) (d r w : Int) : endsAt [] (Ly.run ctxO 9000 [(5, true), (7, false)] (Ly.start Try.f8 [svV s nilS (sls 1 (k + 1)), .int .u8 d, .int .u8 r, .int .u16 w] (mkH [some (ints .u8 f n), some (bytes2 fa fb (k + 1))]))) = some ([tLn8 k, ((tD d).1, false)], .bool true, 4, []) := by kernel_rfl
theorem q8_NR2 (s : Sv) (n k : Nat) (f fa fb : Nat → Int) (d r w : Int) : endsAt [] (Ly.run ctxO 9000 [(5, true), (7, true), (2, false)] (Ly.start Try.f8 [svV s nilS (sls 1 (k + 1)), .int .u8 d, .int .u8 r, .int .u16 w] (mkH [some (ints .u8 f n), some (bytes2 fa fb (k + 1))]))) = some ([tLn8 k, tD d, ((tD r).1, false)], .bool true, 4, []) := by kernel_rfl
theorem q8_NR3 (s : Sv) (n k : Nat) (f fa fb : Nat → Int) (d r w : Int) : endsAt [] (Ly.run ctxO 9000 [(5, true), (7, true), (2, true), (2, false)] (Ly.start Try.f8 [svV s nilS (sls 1 (k + 1)), .int .u8 d, .int .u8 r, .int .u16 w] (mkH [some (ints .u8 f n), some (bytes2 fa fb (k + 1))]))) = some ([tLn8 k, tD d, tD r, ((tE d).1, false)], .bool true, 4, []) := by kernel_rfl
theorem q8_NR4 (s : Sv) (n k : Nat) (f fa fb : Nat → Int) (d r w : Int) : endsAt [] (Ly.run ctxO 9000 [(5, true), (7, true), (2, true), (2, true), (2, false)] (Ly.start Try.f8 [svV s nilS (sls 1 (k + 1)), .int .u8 d, .int .u8 r, .int .u16 w] (mkH [some (ints .u8 f n), some (bytes2 fa fb (k + 1))]))) = some ([tLn8 k, tD d, tD r, tE d, ((tE r).1, false)], .bool true, 4, []) := by kernel_rfl
theorem q8_NRp (s : Sv) (n k : Nat) (f fa fb : Nat → Int) (d r w : Int) : endsAt [] (Ly.run ctxO 9000 [(5, true), (7, true), (2, true), (2, true), (2, true), (3, true)] (Ly.start Try.f8 [svV s nilS (sls 1 (k + 1)), .int .u8 d, .int .u8 r, .int .u16 w] (mkH [some (ints .u8 f n), some (bytes2 fa fb (k + 1))]))) = some ([tLn8 k, tD d, tD r, tE d, tE r, tPc s], .bool true, 4, []) := by kernel_rfl
theorem q8_EN0 (s : Sv) (n k : Nat) (f fa fb : Nat → Int) (d r w : Int) : endsAt [] (Ly.run ctxO 9000 [(13, false)] (Ly.start Try.f8 [svV s (sl 0 0) nilS, .int .u8 d, .int .u8 r, .int .u16 w] (mkH [some (ints .u8 f 0), some (bytes2 fa fb k)]))) = some ([((tD d).1, false)], .bool true, 4, []) := by kernel_rfl
theorem q8_EN1 (s : Sv) (n k : Nat) (f fa fb : Nat → Int) (d r w : Int) : endsAt [] (Ly.run ctxO 9000 [(13, true), (2, false)] (Ly.start Try.f8 [svV s (sl 0 0) nilS, .int .u8 d, .int .u8 r, .int .u16 w] (mkH [some (ints .u8 f 0), some (bytes2 fa fb k)]))) = some ([tD d, ((tD r).1, false)], .bool true, 4, []) := by kernel_rfl
theorem q8_EN2 (s : Sv) (n k : Nat) (f fa fb : Nat → Int) (d r w : Int) : endsAt [] (Ly.run ctxO 9000 [(13, true), (2, true), (2, false)] (Ly.start Try.f8 [svV s (sl 0 0) nilS, .int .u8 d, .int .u8 r, .int .u16 w] (mkH [some (ints .u8 f 0), some (bytes2 fa fb k)]))) = some ([tD d, tD r, ((tE d).1, false)], .bool true, 4, []) := by kernel_rfl
theorem q8_EN3 (s : Sv) (n k : Nat) (f fa fb : Nat → Int) (d r w : Int) : endsAt [] (Ly.run ctxO 9000 [(13, true), (2, true), (2, true), (2, false)] (Ly.start Try.f8 [svV s (sl 0 0) nilS, .int .u8 d, .int .u8 r, .int .u16 w] (mkH [some (ints .u8 f 0), some (bytes2 fa fb k)]))) = some ([tD d, tD r, tE d, ((tE r).1, false)], .bool true, 4, []) := by kernel_rfl
theorem q8_ENp (s : Sv) (n k : Nat) (f fa fb : Nat → Int) (d r w : Int) : endsAt [] (Ly.run ctxO 9000 [(13, true), (2, true), (2, true), (2, true), (3, true)] (Ly.start Try.f8 [svV s (sl 0 0) nilS, .int .u8 d, .int .u8 r, .int .u16 w] (mkH [some (ints .u8 f 0), some (bytes2 fa fb k)]))) = some ([tD d, tD r, tE d, tE r, tPc s], .bool true, 4, []) := by kernel_rfl
theorem q8_EE0 (s : Sv) (n k : Nat) (f fa fb : Nat → Int) (d r w : Int) : endsAt [] (Ly.run ctxO 9000 [(13, false)] (Ly.start Try.f8 [svV s (sl 0 0) (sls 1 0), .int .u8 d, .int .u8 r, .int .u16 w] (mkH [some (ints .u8 f 0), some (bytes2 fa fb 0)]))) = some ([((tD d).1, false)], .bool true, 4, []) := by kernel_rfl
theorem q8_EE1 (s : Sv) (n k : Nat) (f fa fb : Nat → Int) (d r w : Int) : endsAt [] (Ly.run ctxO 9000 [(13, true), (2, false)] (Ly.start Try.f8 [svV s (sl 0 0) (sls 1 0), .int .u8 d, .int .u8 r, .int .u16 w] (mkH [some (ints .u8 f 0), some (bytes2 fa fb 0)]))) = some ([tD d, ((tD r).1, false)], .bool true, 4, []) := by kernel_rfl
theorem q8_EE2 (s : Sv) (n k : Nat) (f fa fb : Nat → Int) (d r w : Int) : endsAt [] (Ly.run ctxO 9000 [(13, true), (2, true), (2, false)] (Ly.start Try.f8 [svV s (sl 0 0) (sls 1 0), .int .u8 d, .int .u8 r, .int .u16 w] (mkH [some (ints .u8 f 0), some (bytes2 fa fb 0)]))) = some ([tD d, tD r, ((tE d).1, false)], .bool true, 4, []) := by kernel_rfl
theorem q8_EE3 (s : Sv) (n k : Nat) (f fa fb : Nat → Int) (d r w : Int) : endsAt [] (Ly.run ctxO 9000 [(13, true), (2, true), (2, true), (2, false)] (Ly.start Try.f8 [svV s (sl 0 0) (sls 1 0), .int .u8 d, .int .u8 r, .int .u16 w] (mkH [some (ints .u8 f 0), some (bytes2 fa fb 0)]))) = some ([tD d, tD r, tE d, ((tE r).1, false)], .bool true, 4, []) := by kernel_rfl
theorem q8_EEp (s : Sv) (n k : Nat) (f fa fb : Nat → Int) (d r w : Int) : endsAt [] (Ly.run ctxO 9000 [(13, true), (2, true), (2, true), (2, true), (3, true)] (Ly.start Try.f8 [svV s (sl 0 0) (sls 1 0), .int .u8 d, .int .u8 r, .int .u16 w] (mkH [some (ints .u8 f 0), some (bytes2 fa fb 0)]))) = some ([tD d, tD r, tE d, tE r, tPc s], .bool true, 4, []) := by kernel_rfl
theorem q8_ER0 (s : Sv) (n k : Nat) (f fa fb : Nat → Int) (d r w : Int) : endsAt [] (Ly.run ctxO 9000 [(5, false)] (Ly.start Try.f8 [svV s (sl 0 0) (sls 1 (k + 1)), .int .u8 d, .int .u8 r, .int .u16 w] (mkH [some (ints .u8 f 0), some (bytes2 fa fb (k + 1))]))) = some ([((tLn8 k).1, false)], .bool true, 4, []) := by kernel_rfl
theorem q8_ER1 (s : Sv) (n k : Nat) (f fa fb : Nat → Int) (d r w : Int) : endsAt [] (Ly.run ctxO 9000 [(5, true), (7, false)] (Ly.start Try.f8 [svV s (sl 0 0) (sls 1 (k + 1)), .int .u8 d, .int .u8 r, .int .u16 w] (mkH [some (ints .u8 f 0), some (bytes2 fa fb (k + 1))]))) = some ([tLn8 k, ((tD d).1, false)], .bool true, 4, []) := by kernel_rfl
theorem q8_ER2 (s : Sv) (n k : Nat) (f fa fb : Nat → Int) (d r w : Int) : endsAt [] (Ly.run ctxO 9000 [(5, true), (7, true), (2, false)] (Ly.start Try.f8 [svV s (sl 0 0) (sls 1 (k + 1)), .int .u8 d, .int .u8 r, .int .u16 w] (mkH [some (ints .u8 f 0), some (bytes2 fa fb (k + 1))]))) = some ([tLn8 k, tD d, ((tD r).1, false)], .bool true, 4, []) := by kernel_rfl
theorem q8_ER3 (s : Sv) (n k : Nat) (f fa fb : Nat → Int) (d r w : Int) : endsAt [] (Ly.run ctxO 9000 [(5, true), (7, true), (2, true), (2, false)] (Ly.start Try.f8 [svV s (sl 0 0) (sls 1 (k + 1)), .int .u8 d, .int .u8 r, .int .u16 w] (mkH [some (ints .u8 f 0), some (bytes2 fa fb (k + 1))]))) = some ([tLn8 k, tD d, tD r, ((tE d).1, false)], .bool true, 4, []) := by kernel_rfl
theorem q8_ER4 (s : Sv) (n k : Nat) (f fa fb : Nat → Int) (d r w : Int) : endsAt [] (Ly.run ctxO 9000 [(5, true), (7, true), (2, true), (2, true), (2, false)] (Ly.start Try.f8 [svV s (sl 0 0) (sls 1 (k + 1)), .int .u8 d, .int .u8 r, .int .u16 w] (mkH [some (ints .u8 f 0), some (bytes2 fa fb (k + 1))]))) = some ([tLn8 k, tD d, tD r, tE d, ((tE r).1, false)], .bool true, 4, []) := by kernel_rfl
theorem q8_ERp (s : Sv) (n k : Nat) (f fa fb : Nat → Int) (d r w : Int) : endsAt [] (Ly.run ctxO 9000 [(5, true), (7, true), (2, true), (2, true), (2, true), (3, true)] (Ly.start Try.f8 [svV s (sl 0 0) (sls 1 (k + 1)), .int .u8 d, .int .u8 r, .int .u16 w] (mkH [some (ints .u8 f 0), some (bytes2 fa fb (k + 1))]))) = some ([tLn8 k, tD d, tD r, tE d, tE r, tPc s], .bool true, 4, []) := by kernel_rfl
theorem q8_RN0 (s : Sv) (n k : Nat) (f fa fb : Nat → Int) (d r w : Int) : endsAt [] (Ly.run ctxO 9000 [(0, false)] (Ly.start Try.f8 [svV s (sl 0 (n + 1)) nilS, .int .u8 d, .int .u8 r, .int .u16 w] (mkH [some (ints .u8 f (n + 1)), some (bytes2 fa fb k)]))) = some ([((tLi n).1, false)], .bool true, 4, []) := by kernel_rfl
theorem q8_RN1 (s : Sv) (n k : Nat) (f fa fb : Nat → Int) (d r w : Int) : endsAt [] (Ly.run ctxO 9000 [(0, true), (9, false)] (Ly.start Try.f8 [svV s (sl 0 (n + 1)) nilS, .int .u8 d, .int .u8 r, .int .u16 w] (mkH [some (ints .u8 f (n + 1)), some (bytes2 fa fb k)]))) = some ([tLi n, ((tMe n).1, false)], .bool true, 4, []) := by kernel_rfl
theorem q8_RN2 (s : Sv) (n k : Nat) (f fa fb : Nat → Int) (d r w : Int) : endsAt [] (Ly.run ctxO 9000 [(0, true), (9, true), (2, false)] (Ly.start Try.f8 [svV s (sl 0 (n + 1)) nilS, .int .u8 d, .int .u8 r, .int .u16 w] (mkH [some (ints .u8 f (n + 1)), some (bytes2 fa fb k)]))) = some ([tLi n, tMe n, ((tD d).1, false)], .bool true, 4, []) := by kernel_rfl
theorem q8_RN3 (s : Sv) (n k : Nat) (f fa fb : Nat → Int) (d r w : Int) : endsAt [] (Ly.run ctxO 9000 [(0, true), (9, true), (2, true), (2, false)] (Ly.start Try.f8 [svV s (sl 0 (n + 1)) nilS, .int .u8 d, .int .u8 r, .int .u16 w] (mkH [some (ints .u8 f (n + 1)), some (bytes2 fa fb k)]))) = some ([tLi n, tMe n, tD d, ((tD r).1, false)], .bool true, 4, []) := by kernel_rfl
theorem q8_RN4 (s : Sv) (n k : Nat) (f fa fb : Nat → Int) (d r w : Int) : endsAt [] (Ly.run ctxO 9000 [(0, true), (9, true), (2, true), (2, true), (2, false)] (Ly.start Try.f8 [svV s (sl 0 (n + 1)) nilS, .int .u8 d, .int .u8 r, .int .u16 w] (mkH [some (ints .u8 f (n + 1)), some (bytes2 fa fb k)]))) = some ([tLi n, tMe n, tD d, tD r, ((tE d).1, false)], .bool true, 4, []) := by kernel_rfl
theorem q8_RN5 (s : Sv) (n k : Nat) (f fa fb : Nat → Int) (d r w : Int) : endsAt [] (Ly.run ctxO 9000 [(0, true), (9, true), (2, true), (2, true), (2, true), (2, false)] (Ly.start Try.f8 [svV s (sl 0 (n + 1)) nilS, .int .u8 d, .int .u8 r, .int .u16 w] (mkH [some (ints .u8 f (n + 1)), some (bytes2 fa fb k)]))) = some ([tLi n, tMe n, tD d, tD r, tE d, ((tE r).1, false)], .bool true, 4, []) := by kernel_rfl
theorem q8_RNp (s : Sv) (n k : Nat) (f fa fb : Nat → Int) (d r w : Int) : endsAt [] (Ly.run ctxO 9000 [(0, true), (9, true), (2, true), (2, true), (2, true), (2, true), (3, true)] (Ly.start Try.f8 [svV s (sl 0 (n + 1)) nilS, .int .u8 d, .int .u8 r, .int .u16 w] (mkH [some (ints .u8 f (n + 1)), some (bytes2 fa fb k)]))) = some ([tLi n, tMe n, tD d, tD r, tE d, tE r, tPc s], .bool true, 4, []) := by kernel_rfl
theorem q8_RE0 (s : Sv) (n k : Nat) (f fa fb : Nat → Int) (d r w : Int) : endsAt [] (Ly.run ctxO 9000 [(0, false)] (Ly.start Try.f8 [svV s (sl 0 (n + 1)) (sls 1 0), .int .u8 d, .int .u8 r, .int .u16 w] (mkH [some (ints .u8 f (n + 1)), some (bytes2 fa fb 0)]))) = some ([((tLi n).1, false)], .bool true, 4, []) := by kernel_rfl
theorem q8_RE1 (s : Sv) (n k : Nat) (f fa fb : Nat → Int) (d r w : Int) : endsAt [] (Ly.run ctxO 9000 [(0, true), (9, false)] (Ly.start Try.f8 [svV s (sl 0 (n + 1)) (sls 1 0), .int .u8 d, .int .u8 r, .int .u16 w] (mkH [some (ints .u8 f (n + 1)), some (bytes2 fa fb 0)]))) = some ([tLi n, ((tMe n).1, false)], .bool true, 4, []) := by kernel_rfl
theorem q8_RE2 (s : Sv) (n k : Nat) (f fa fb : Nat → Int) (d r w : Int) : endsAt [] (Ly.run ctxO 9000 [(0, true), (9, true), (2, false)] (Ly.start Try.f8 [svV s (sl 0 (n + 1)) (sls 1 0), .int .u8 d, .int .u8 r, .int .u16 w] (mkH [some (ints .u8 f (n + 1)), some (bytes2 fa fb 0)]))) = some ([tLi n, tMe n, ((tD d).1, false)], .bool true, 4, []) := by kernel_rfl
theorem q8_RE3 (s : Sv) (n k : Nat) (f fa fb : Nat → Int) (d r w : Int) : endsAt [] (Ly.run ctxO 9000 [(0, true), (9, true), (2, true), (2, false)] (Ly.start Try.f8 [svV s (sl 0 (n + 1)) (sls 1 0), .int .u8 d, .int .u8 r, .int .u16 w] (mkH [some (ints .u8 f (n + 1)), some (bytes2 fa fb 0)]))) = some ([tLi n, tMe n, tD d, ((tD r).1, false)], .bool true, 4, []) := by kernel_rfl
theorem q8_RE4 (s : Sv) (n k : Nat) (f fa fb : Nat → Int) (d r w : Int) : endsAt [] (Ly.run ctxO 9000 [(0, true), (9, true), (2, true), (2, true), (2, false)] (Ly.start Try.f8 [svV s (sl 0 (n + 1)) (sls 1 0), .int .u8 d, .int .u8 r, .int .u16 w] (mkH [some (ints .u8 f (n + 1)), some (bytes2 fa fb 0)]))) = some ([tLi n, tMe n, tD d, tD r, ((tE d).1, false)], .bool true, 4, []) := by kernel_rfl
theorem q8_RE5 (s : Sv) (n k : Nat) (f fa fb : Nat → Int) (d r w : Int) : endsAt [] (Ly.run ctxO 9000 [(0, true), (9, true), (2, true), (2, true), (2, true), (2, false)] (Ly.start Try.f8 [svV s (sl 0 (n + 1)) (sls 1 0), .int .u8 d, .int .u8 r, .int .u16 w] (mkH [some (ints .u8 f (n + 1)), some (bytes2 fa fb 0)]))) = some ([tLi n, tMe n, tD d, tD r, tE d, ((tE r).1, false)], .bool true, 4, []) := by kernel_rfl
theorem q8_REp (s : Sv) (n k : Nat) (f fa fb : Nat → Int) (d r w : Int) : endsAt [] (Ly.run ctxO 9000 [(0, true), (9, true), (2, true), (2, true), (2, true), (2, true), (3, true)] (Ly.start Try.f8 [svV s (sl 0 (n + 1)) (sls 1 0), .int .u8 d, .int .u8 r, .int .u16 w] (mkH [some (ints .u8 f (n + 1)), some (bytes2 fa fb 0)]))) = some ([tLi n, tMe n, tD d, tD r, tE d, tE r, tPc s], .bool true, 4, []) := by kernel_rfl
theorem q8_RR0 (s : Sv) (n k : Nat) (f fa fb : Nat → Int) (d r w : Int) : endsAt [] (Ly.run ctxO 9000 [(0, false)] (Ly.start Try.f8 [svV s (sl 0 (n + 1)) (sls 1 (k + 1)), .int .u8 d, .int .u8 r, .int .u16 w] (mkH [some (ints .u8 f (n + 1)), some (bytes2 fa fb (k + 1))]))) = some ([((tLi n).1, false)], .bool true, 4, []) := by kernel_rfl
theorem q8_RR1 (s : Sv) (n k : Nat) (f fa fb : Nat → Int) (d r w : Int) : endsAt [] (Ly.run ctxO 9000 [(0, true), (4, false)] (Ly.start Try.f8 [svV s (sl 0 (n + 1)) (sls 1 (k + 1)), .int .u8 d, .int .u8 r, .int .u16 w] (mkH [some (ints .u8 f (n + 1)), some (bytes2 fa fb (k + 1))]))) = some ([tLi n, ((tLn8 k).1, false)], .bool true, 4, []) := by kernel_rfl
theorem q8_RR2 (s : Sv) (n k : Nat) (f fa fb : Nat → Int) (d r w : Int) : endsAt [] (Ly.run ctxO 9000 [(0, true), (4, true), (4, false)] (Ly.start Try.f8 [svV s (sl 0 (n + 1)) (sls 1 (k + 1)), .int .u8 d, .int .u8 r, .int .u16 w] (mkH [some (ints .u8 f (n + 1)), some (bytes2 fa fb (k + 1))]))) = some ([tLi n, tLn8 k, ((tMe n).1, false)], .bool true, 4, []) := by kernel_rfl
theorem q8_RR3 (s : Sv) (n k : Nat) (f fa fb : Nat → Int) (d r w : Int) : endsAt [] (Ly.run ctxO 9000 [(0, true), (4, true), (4, true), (2, false)] (Ly.start Try.f8 [svV s (sl 0 (n + 1)) (sls 1 (k + 1)), .int .u8 d, .int .u8 r, .int .u16 w] (mkH [some (ints .u8 f (n + 1)), some (bytes2 fa fb (k + 1))]))) = some ([tLi n, tLn8 k, tMe n, ((tD d).1, false)], .bool true, 4, []) := by kernel_rfl
theorem q8_RR4 (s : Sv) (n k : Nat) (f fa fb : Nat → Int) (d r w : Int) : endsAt [] (Ly.run ctxO 9000 [(0, true), (4, true), (4, true), (2, true), (2, false)] (Ly.start Try.f8 [svV s (sl 0 (n + 1)) (sls 1 (k + 1)), .int .u8 d, .int .u8 r, .int .u16 w] (mkH [some (ints .u8 f (n + 1)), some (bytes2 fa fb (k + 1))]))) = some ([tLi n, tLn8 k, tMe n, tD d, ((tD r).1, false)], .bool true, 4, []) := by kernel_rfl
theorem q8_RR5 (s : Sv) (n k : Nat) (f fa fb : Nat → Int) (d r w : Int) : endsAt [] (Ly.run ctxO 9000 [(0, true), (4, true), (4, true), (2, true), (2, true), (2, false)] (Ly.start Try.f8 [svV s (sl 0 (n + 1)) (sls 1 (k + 1)), .int .u8 d, .int .u8 r, .int .u16 w] (mkH [some (ints .u8 f (n + 1)), some (bytes2 fa fb (k + 1))]))) = some ([tLi n, tLn8 k, tMe n, tD d, tD r, ((tE d).1, false)], .bool true, 4, []) := by kernel_rfl
theorem q8_RR6 (s : Sv) (n k : Nat) (f fa fb : Nat → Int) (d r w : Int) : endsAt [] (Ly.run ctxO 9000 [(0, true), (4, true), (4, true), (2, true), (2, true), (2, true), (2, false)] (Ly.start Try.f8 [svV s (sl 0 (n + 1)) (sls 1 (k + 1)), .int .u8 d, .int .u8 r, .int .u16 w] (mkH [some (ints .u8 f (n + 1)), some (bytes2 fa fb (k + 1))]))) = some ([tLi n, tLn8 k, tMe n, tD d, tD r, tE d, ((tE r).1, false)], .bool true, 4, []) := by kernel_rfl
theorem q8_RRp (s : Sv) (n k : Nat) (f fa fb : Nat → Int) (d r w : Int) : endsAt [] (Ly.run ctxO 9000 [(0, true), (4, true), (4, true), (2, true), (2, true), (2, true), (2, true), (3, true)] (Ly.start Try.f8 [svV s (sl 0 (n + 1)) (sls 1 (k + 1)), .int .u8 d, .int .u8 r, .int .u16 w] (mkH [some (ints .u8 f (n + 1)), some (bytes2 fa fb (k + 1))]))) = some ([tLi n, tLn8 k, tMe n, tD d, tD r, tE d, tE r, tPc s], .bool true, 4, []) := by kernel_rfl
theorem moves_walk (W : World) (v0 v1 v2 v3 : Value) (h0 : ∃ cs, v0 = .agg ⟨cs⟩ ∧ CksOk W [.int .u8, .int .u8, .int .u8, .int .u8, .int .u8, .int .u8, .int .u8, .int .u8, .bool, .bool, .bool, .bool, .bool, .int .u16, .int .u16, .bool, .slice [.int .u8], .slice [.int .u16, .int .u8]] cs)
    (h1 : CkOk W (.int .u8) v1) (h2 : CkOk W (.int .u8) v2) (h3 : CkOk W (.int .u16) v3) : Calls Try.prog 8 #[v0, v1, v2, v3] W fun e W' => e = .returned (.bool true) ∧ Below W.heap.size W W' := by
  simp only [CkOk] at h1 h2 h3
  obtain ⟨d, rfl, hd⟩ := h1
  obtain ⟨r, rfl, hr⟩ := h2
  obtain ⟨w, rfl, hw⟩ := h3
  have hd := bounds_u8 hd
  have hr := bounds_u8 hr
  have hw : B16 w := bounds_u16 hw
  refine start_law h0 (rest := [.int .u8 d, .int .u8 r, .int .u16 w]) (by simp [plain, plainL]) ?_ ?_ ?_ ?_ ?_ ?_ ?_ ?_ ?_
  · intro s n k f fa fb hs
    rcases Int.lt_or_le 7 d with x0 | x0
    · exact (Ends.of_run ctxO_ok 9000 _ gLO8 (by kernel_rfl) (q8_NN0 s n k f fa fb d r w) (tr_cons (tD_no (by omega)) trivial)).mono (fun u K h => h.1)
    rcases Int.lt_or_le 7 r with x1 | x1
    · exact (Ends.of_run ctxO_ok 9000 _ gLO8 (by kernel_rfl) (q8_NN1 s n k f fa fb d r w) (tr_cons (tD_ok (by omega)) (tr_cons (tD_no (by omega)) trivial))).mono (fun u K h => h.1)
    by_cases hd6 : d = 6
    · exact (Ends.of_run ctxO_ok 9000 _ gLO8 (by kernel_rfl) (q8_NN2 s n k f fa fb d r w) (tr_cons (tD_ok (by omega)) (tr_cons (tD_ok (by omega)) (tr_cons (tE_no hd6) trivial)))).mono (fun u K h => h.1)
    by_cases hr6 : r = 6
    · exact (Ends.of_run ctxO_ok 9000 _ gLO8 (by kernel_rfl) (q8_NN3 s n k f fa fb d r w) (tr_cons (tD_ok (by omega)) (tr_cons (tD_ok (by omega)) (tr_cons (tE_ok hd6) (tr_cons (tE_no hr6) trivial))))).mono (fun u K h => h.1)
    by_cases hp : s.pc = 0
    · exact c8_NN tail8 s n k f fa fb d r w hs hw (by omega) (by omega) hd6 (by omega) (by omega) hr6 hp
    · exact (Ends.of_run ctxO_ok 9000 _ gLO8 (by kernel_rfl) (q8_NNp s n k f fa fb d r w) (tr_cons (tD_ok (by omega)) (tr_cons (tD_ok (by omega)) (tr_cons (tE_ok hd6) (tr_cons (tE_ok hr6) (tr_cons (tPc_ok hp) trivial)))))).mono (fun u K h => h.1)
  · intro s n k f fa fb hs
    rcases Int.lt_or_le 7 d with x0 | x0
    · exact (Ends.of_run ctxO_ok 9000 _ gLO8 (by kernel_rfl) (q8_NE0 s n k f fa fb d r w) (tr_cons (tD_no (by omega)) trivial)).mono (fun u K h => h.1)
    rcases Int.lt_or_le 7 r with x1 | x1
    · exact (Ends.of_run ctxO_ok 9000 _ gLO8 (by kernel_rfl) (q8_NE1 s n k f fa fb d r w) (tr_cons (tD_ok (by omega)) (tr_cons (tD_no (by omega)) trivial))).mono (fun u K h => h.1)
    by_cases hd6 : d = 6
    · exact (Ends.of_run ctxO_ok 9000 _ gLO8 (by kernel_rfl) (q8_NE2 s n k f fa fb d r w) (tr_cons (tD_ok (by omega)) (tr_cons (tD_ok (by omega)) (tr_cons (tE_no hd6) trivial)))).mono (fun u K h => h.1)
    by_cases hr6 : r = 6
    · exact (Ends.of_run ctxO_ok 9000 _ gLO8 (by kernel_rfl) (q8_NE3 s n k f fa fb d r w) (tr_cons (tD_ok (by omega)) (tr_cons (tD_ok (by omega)) (tr_cons (tE_ok hd6) (tr_cons (tE_no hr6) trivial))))).mono (fun u K h => h.1)
    by_cases hp : s.pc = 0
    · exact c8_NE tail8 s n k f fa fb d r w hs hw (by omega) (by omega) hd6 (by omega) (by omega) hr6 hp
    · exact (Ends.of_run ctxO_ok 9000 _ gLO8 (by kernel_rfl) (q8_NEp s n k f fa fb d r w) (tr_cons (tD_ok (by omega)) (tr_cons (tD_ok (by omega)) (tr_cons (tE_ok hd6) (tr_cons (tE_ok hr6) (tr_cons (tPc_ok hp) trivial)))))).mono (fun u K h => h.1)
  · intro s n k f fa fb hs hb
    rcases Nat.lt_or_ge 300 (k + 1) with x0 | x0
    · exact (Ends.of_run ctxO_ok 9000 _ gLO8 (by kernel_rfl) (q8_NR0 s n k f fa fb d r w) (tr_cons (tLn8_no (by omega)) trivial)).mono (fun u K h => h.1)
    rcases Int.lt_or_le 7 d with x1 | x1
    · exact (Ends.of_run ctxO_ok 9000 _ gLO8 (by kernel_rfl) (q8_NR1 s n k f fa fb d r w) (tr_cons (tLn8_ok (by omega)) (tr_cons (tD_no (by omega)) trivial))).mono (fun u K h => h.1)
    rcases Int.lt_or_le 7 r with x2 | x2
    · exact (Ends.of_run ctxO_ok 9000 _ gLO8 (by kernel_rfl) (q8_NR2 s n k f fa fb d r w) (tr_cons (tLn8_ok (by omega)) (tr_cons (tD_ok (by omega)) (tr_cons (tD_no (by omega)) trivial)))).mono (fun u K h => h.1)
    by_cases hd6 : d = 6
    · exact (Ends.of_run ctxO_ok 9000 _ gLO8 (by kernel_rfl) (q8_NR3 s n k f fa fb d r w) (tr_cons (tLn8_ok (by omega)) (tr_cons (tD_ok (by omega)) (tr_cons (tD_ok (by omega)) (tr_cons (tE_no hd6) trivial))))).mono (fun u K h => h.1)
    by_cases hr6 : r = 6
    · exact (Ends.of_run ctxO_ok 9000 _ gLO8 (by kernel_rfl) (q8_NR4 s n k f fa fb d r w) (tr_cons (tLn8_ok (by omega)) (tr_cons (tD_ok (by omega)) (tr_cons (tD_ok (by omega)) (tr_cons (tE_ok hd6) (tr_cons (tE_no hr6) trivial)))))).mono (fun u K h => h.1)
    by_cases hp : s.pc = 0
    · exact c8_NR tail8 s n k f fa fb d r w hs hw (by omega) (by omega) hd6 (by omega) (by omega) hr6 hp (by omega)
    · exact (Ends.of_run ctxO_ok 9000 _ gLO8 (by kernel_rfl) (q8_NRp s n k f fa fb d r w) (tr_cons (tLn8_ok (by omega)) (tr_cons (tD_ok (by omega)) (tr_cons (tD_ok (by omega)) (tr_cons (tE_ok hd6) (tr_cons (tE_ok hr6) (tr_cons (tPc_ok hp) trivial))))))).mono (fun u K h => h.1)
  · intro s n k f fa fb hs
    rcases Int.lt_or_le 7 d with x0 | x0
    · exact (Ends.of_run ctxO_ok 9000 _ gLO8 (by kernel_rfl) (q8_EN0 s n k f fa fb d r w) (tr_cons (tD_no (by omega)) trivial)).mono (fun u K h => h.1)
    rcases Int.lt_or_le 7 r with x1 | x1
    · exact (Ends.of_run ctxO_ok 9000 _ gLO8 (by kernel_rfl) (q8_EN1 s n k f fa fb d r w) (tr_cons (tD_ok (by omega)) (tr_cons (tD_no (by omega)) trivial))).mono (fun u K h => h.1)
    by_cases hd6 : d = 6
    · exact (Ends.of_run ctxO_ok 9000 _ gLO8 (by kernel_rfl) (q8_EN2 s n k f fa fb d r w) (tr_cons (tD_ok (by omega)) (tr_cons (tD_ok (by omega)) (tr_cons (tE_no hd6) trivial)))).mono (fun u K h => h.1)
    by_cases hr6 : r = 6
    · exact (Ends.of_run ctxO_ok 9000 _ gLO8 (by kernel_rfl) (q8_EN3 s n k f fa fb d r w) (tr_cons (tD_ok (by omega)) (tr_cons (tD_ok (by omega)) (tr_cons (tE_ok hd6) (tr_cons (tE_no hr6) trivial))))).mono (fun u K h => h.1)
    by_cases hp : s.pc = 0
    · exact c8_EN tail8 s n k f fa fb d r w hs hw (by omega) (by omega) hd6 (by omega) (by omega) hr6 hp
    · exact (Ends.of_run ctxO_ok 9000 _ gLO8 (by kernel_rfl) (q8_ENp s n k f fa fb d r w) (tr_cons (tD_ok (by omega)) (tr_cons (tD_ok (by omega)) (tr_cons (tE_ok hd6) (tr_cons (tE_ok hr6) (tr_cons (tPc_ok hp) trivial)))))).mono (fun u K h => h.1)
  · intro s n k f fa fb hs
    rcases Int.lt_or_le 7 d with x0 | x0
    · exact (Ends.of_run ctxO_ok 9000 _ gLO8 (by kernel_rfl) (q8_EE0 s n k f fa fb d r w) (tr_cons (tD_no (by omega)) trivial)).mono (fun u K h => h.1)
    rcases Int.lt_or_le 7 r with x1 | x1
    · exact (Ends.of_run ctxO_ok 9000 _ gLO8 (by kernel_rfl) (q8_EE1 s n k f fa fb d r w) (tr_cons (tD_ok (by omega)) (tr_cons (tD_no (by omega)) trivial))).mono (fun u K h => h.1)
    by_cases hd6 : d = 6
    · exact (Ends.of_run ctxO_ok 9000 _ gLO8 (by kernel_rfl) (q8_EE2 s n k f fa fb d r w) (tr_cons (tD_ok (by omega)) (tr_cons (tD_ok (by omega)) (tr_cons (tE_no hd6) trivial)))).mono (fun u K h => h.1)
    by_cases hr6 : r = 6
    · exact (Ends.of_run ctxO_ok 9000 _ gLO8 (by kernel_rfl) (q8_EE3 s n k f fa fb d r w) (tr_cons (tD_ok (by omega)) (tr_cons (tD_ok (by omega)) (tr_cons (tE_ok hd6) (tr_cons (tE_no hr6) trivial))))).mono (fun u K h => h.1)
    by_cases hp : s.pc = 0
    · exact c8_EE tail8 s n k f fa fb d r w hs hw (by omega) (by omega) hd6 (by omega) (by omega) hr6 hp
    · exact (Ends.of_run ctxO_ok 9000 _ gLO8 (by kernel_rfl) (q8_EEp s n k f fa fb d r w) (tr_cons (tD_ok (by omega)) (tr_cons (tD_ok (by omega)) (tr_cons (tE_ok hd6) (tr_cons (tE_ok hr6) (tr_cons (tPc_ok hp) trivial)))))).mono (fun u K h => h.1)
  · intro s n k f fa fb hs hb
    rcases Nat.lt_or_ge 300 (k + 1) with x0 | x0
    · exact (Ends.of_run ctxO_ok 9000 _ gLO8 (by kernel_rfl) (q8_ER0 s n k f fa fb d r w) (tr_cons (tLn8_no (by omega)) trivial)).mono (fun u K h => h.1)
    rcases Int.lt_or_le 7 d with x1 | x1
    · exact (Ends.of_run ctxO_ok 9000 _ gLO8 (by kernel_rfl) (q8_ER1 s n k f fa fb d r w) (tr_cons (tLn8_ok (by omega)) (tr_cons (tD_no (by omega)) trivial))).mono (fun u K h => h.1)
    rcases Int.lt_or_le 7 r with x2 | x2
    · exact (Ends.of_run ctxO_ok 9000 _ gLO8 (by kernel_rfl) (q8_ER2 s n k f fa fb d r w) (tr_cons (tLn8_ok (by omega)) (tr_cons (tD_ok (by omega)) (tr_cons (tD_no (by omega)) trivial)))).mono (fun u K h => h.1)
    by_cases hd6 : d = 6
    · exact (Ends.of_run ctxO_ok 9000 _ gLO8 (by kernel_rfl) (q8_ER3 s n k f fa fb d r w) (tr_cons (tLn8_ok (by omega)) (tr_cons (tD_ok (by omega)) (tr_cons (tD_ok (by omega)) (tr_cons (tE_no hd6) trivial))))).mono (fun u K h => h.1)
    by_cases hr6 : r = 6
    · exact (Ends.of_run ctxO_ok 9000 _ gLO8 (by kernel_rfl) (q8_ER4 s n k f fa fb d r w) (tr_cons (tLn8_ok (by omega)) (tr_cons (tD_ok (by omega)) (tr_cons (tD_ok (by omega)) (tr_cons (tE_ok hd6) (tr_cons (tE_no hr6) trivial)))))).mono (fun u K h => h.1)
    by_cases hp : s.pc = 0
    · exact c8_ER tail8 s n k f fa fb d r w hs hw (by omega) (by omega) hd6 (by omega) (by omega) hr6 hp (by omega)
    · exact (Ends.of_run ctxO_ok 9000 _ gLO8 (by kernel_rfl) (q8_ERp s n k f fa fb d r w) (tr_cons (tLn8_ok (by omega)) (tr_cons (tD_ok (by omega)) (tr_cons (tD_ok (by omega)) (tr_cons (tE_ok hd6) (tr_cons (tE_ok hr6) (tr_cons (tPc_ok hp) trivial))))))).mono (fun u K h => h.1)
  · intro s n k f fa fb hs hf
    rcases Nat.lt_or_ge 300 (n + 1) with x0 | x0
    · exact (Ends.of_run ctxO_ok 9000 _ gLO8 (by kernel_rfl) (q8_RN0 s n k f fa fb d r w) (tr_cons (tLi8_no (by omega)) trivial)).mono (fun u K h => h.1)
    rcases Nat.lt_or_ge 256 (n + 1) with x1 | x1
    · exact (Ends.of_run ctxO_ok 9000 _ gLO8 (by kernel_rfl) (q8_RN1 s n k f fa fb d r w) (tr_cons (tLi_ok (by omega)) (tr_cons (tMe8_no (by omega)) trivial))).mono (fun u K h => h.1)
    rcases Int.lt_or_le 7 d with x2 | x2
    · exact (Ends.of_run ctxO_ok 9000 _ gLO8 (by kernel_rfl) (q8_RN2 s n k f fa fb d r w) (tr_cons (tLi_ok (by omega)) (tr_cons (tMe_ok (by omega)) (tr_cons (tD_no (by omega)) trivial)))).mono (fun u K h => h.1)
    rcases Int.lt_or_le 7 r with x3 | x3
    · exact (Ends.of_run ctxO_ok 9000 _ gLO8 (by kernel_rfl) (q8_RN3 s n k f fa fb d r w) (tr_cons (tLi_ok (by omega)) (tr_cons (tMe_ok (by omega)) (tr_cons (tD_ok (by omega)) (tr_cons (tD_no (by omega)) trivial))))).mono (fun u K h => h.1)
    by_cases hd6 : d = 6
    · exact (Ends.of_run ctxO_ok 9000 _ gLO8 (by kernel_rfl) (q8_RN4 s n k f fa fb d r w) (tr_cons (tLi_ok (by omega)) (tr_cons (tMe_ok (by omega)) (tr_cons (tD_ok (by omega)) (tr_cons (tD_ok (by omega)) (tr_cons (tE_no hd6) trivial)))))).mono (fun u K h => h.1)
    by_cases hr6 : r = 6
    · exact (Ends.of_run ctxO_ok 9000 _ gLO8 (by kernel_rfl) (q8_RN5 s n k f fa fb d r w) (tr_cons (tLi_ok (by omega)) (tr_cons (tMe_ok (by omega)) (tr_cons (tD_ok (by omega)) (tr_cons (tD_ok (by omega)) (tr_cons (tE_ok hd6) (tr_cons (tE_no hr6) trivial))))))).mono (fun u K h => h.1)
    by_cases hp : s.pc = 0
    · exact c8_RN tail8 s n k f fa fb d r w hs hw (by omega) (by omega) hd6 (by omega) (by omega) hr6 hp (by omega)
    · exact (Ends.of_run ctxO_ok 9000 _ gLO8 (by kernel_rfl) (q8_RNp s n k f fa fb d r w) (tr_cons (tLi_ok (by omega)) (tr_cons (tMe_ok (by omega)) (tr_cons (tD_ok (by omega)) (tr_cons (tD_ok (by omega)) (tr_cons (tE_ok hd6) (tr_cons (tE_ok hr6) (tr_cons (tPc_ok hp) trivial)))))))).mono (fun u K h => h.1)
  · intro s n k f fa fb hs hf
    rcases Nat.lt_or_ge 300 (n + 1) with x0 | x0
    · exact (Ends.of_run ctxO_ok 9000 _ gLO8 (by kernel_rfl) (q8_RE0 s n k f fa fb d r w) (tr_cons (tLi8_no (by omega)) trivial)).mono (fun u K h => h.1)
    rcases Nat.lt_or_ge 256 (n + 1) with x1 | x1
    · exact (Ends.of_run ctxO_ok 9000 _ gLO8 (by kernel_rfl) (q8_RE1 s n k f fa fb d r w) (tr_cons (tLi_ok (by omega)) (tr_cons (tMe8_no (by omega)) trivial))).mono (fun u K h => h.1)
    rcases Int.lt_or_le 7 d with x2 | x2
    · exact (Ends.of_run ctxO_ok 9000 _ gLO8 (by kernel_rfl) (q8_RE2 s n k f fa fb d r w) (tr_cons (tLi_ok (by omega)) (tr_cons (tMe_ok (by omega)) (tr_cons (tD_no (by omega)) trivial)))).mono (fun u K h => h.1)
    rcases Int.lt_or_le 7 r with x3 | x3
    · exact (Ends.of_run ctxO_ok 9000 _ gLO8 (by kernel_rfl) (q8_RE3 s n k f fa fb d r w) (tr_cons (tLi_ok (by omega)) (tr_cons (tMe_ok (by omega)) (tr_cons (tD_ok (by omega)) (tr_cons (tD_no (by omega)) trivial))))).mono (fun u K h => h.1)
    by_cases hd6 : d = 6
    · exact (Ends.of_run ctxO_ok 9000 _ gLO8 (by kernel_rfl) (q8_RE4 s n k f fa fb d r w) (tr_cons (tLi_ok (by omega)) (tr_cons (tMe_ok (by omega)) (tr_cons (tD_ok (by omega)) (tr_cons (tD_ok (by omega)) (tr_cons (tE_no hd6) trivial)))))).mono (fun u K h => h.1)
    by_cases hr6 : r = 6
    · exact (Ends.of_run ctxO_ok 9000 _ gLO8 (by kernel_rfl) (q8_RE5 s n k f fa fb d r w) (tr_cons (tLi_ok (by omega)) (tr_cons (tMe_ok (by omega)) (tr_cons (tD_ok (by omega)) (tr_cons (tD_ok (by omega)) (tr_cons (tE_ok hd6) (tr_cons (tE_no hr6) trivial))))))).mono (fun u K h => h.1)
    by_cases hp : s.pc = 0
    · exact c8_RE tail8 s n k f fa fb d r w hs hw (by omega) (by omega) hd6 (by omega) (by omega) hr6 hp (by omega)
    · exact (Ends.of_run ctxO_ok 9000 _ gLO8 (by kernel_rfl) (q8_REp s n k f fa fb d r w) (tr_cons (tLi_ok (by omega)) (tr_cons (tMe_ok (by omega)) (tr_cons (tD_ok (by omega)) (tr_cons (tD_ok (by omega)) (tr_cons (tE_ok hd6) (tr_cons (tE_ok hr6) (tr_cons (tPc_ok hp) trivial)))))))).mono (fun u K h => h.1)
  · intro s n k f fa fb hs hf hb
    rcases Nat.lt_or_ge 300 (n + 1) with x0 | x0
    · exact (Ends.of_run ctxO_ok 9000 _ gLO8 (by kernel_rfl) (q8_RR0 s n k f fa fb d r w) (tr_cons (tLi8_no (by omega)) trivial)).mono (fun u K h => h.1)
    rcases Nat.lt_or_ge 300 (k + 1) with x1 | x1
    · exact (Ends.of_run ctxO_ok 9000 _ gLO8 (by kernel_rfl) (q8_RR1 s n k f fa fb d r w) (tr_cons (tLi_ok (by omega)) (tr_cons (tLn8_no (by omega)) trivial))).mono (fun u K h => h.1)
    rcases Nat.lt_or_ge 256 (n + 1) with x2 | x2
    · exact (Ends.of_run ctxO_ok 9000 _ gLO8 (by kernel_rfl) (q8_RR2 s n k f fa fb d r w) (tr_cons (tLi_ok (by omega)) (tr_cons (tLn8_ok (by omega)) (tr_cons (tMe8_no (by omega)) trivial)))).mono (fun u K h => h.1)
    rcases Int.lt_or_le 7 d with x3 | x3
    · exact (Ends.of_run ctxO_ok 9000 _ gLO8 (by kernel_rfl) (q8_RR3 s n k f fa fb d r w) (tr_cons (tLi_ok (by omega)) (tr_cons (tLn8_ok (by omega)) (tr_cons (tMe_ok (by omega)) (tr_cons (tD_no (by omega)) trivial))))).mono (fun u K h => h.1)
    rcases Int.lt_or_le 7 r with x4 | x4
    · exact (Ends.of_run ctxO_ok 9000 _ gLO8 (by kernel_rfl) (q8_RR4 s n k f fa fb d r w) (tr_cons (tLi_ok (by omega)) (tr_cons (tLn8_ok (by omega)) (tr_cons (tMe_ok (by omega)) (tr_cons (tD_ok (by omega)) (tr_cons (tD_no (by omega)) trivial)))))).mono (fun u K h => h.1)
    by_cases hd6 : d = 6
    · exact (Ends.of_run ctxO_ok 9000 _ gLO8 (by kernel_rfl) (q8_RR5 s n k f fa fb d r w) (tr_cons (tLi_ok (by omega)) (tr_cons (tLn8_ok (by omega)) (tr_cons (tMe_ok (by omega)) (tr_cons (tD_ok (by omega)) (tr_cons (tD_ok (by omega)) (tr_cons (tE_no hd6) trivial))))))).mono (fun u K h => h.1)
    by_cases hr6 : r = 6
    · exact (Ends.of_run ctxO_ok 9000 _ gLO8 (by kernel_rfl) (q8_RR6 s n k f fa fb d r w) (tr_cons (tLi_ok (by omega)) (tr_cons (tLn8_ok (by omega)) (tr_cons (tMe_ok (by omega)) (tr_cons (tD_ok (by omega)) (tr_cons (tD_ok (by omega)) (tr_cons (tE_ok hd6) (tr_cons (tE_no hr6) trivial)))))))).mono (fun u K h => h.1)
    by_cases hp : s.pc = 0
    · exact c8_RR tail8 s n k f fa fb d r w hs hw (by omega) (by omega) hd6 (by omega) (by omega) hr6 hp (by omega) (by omega)
    · exact (Ends.of_run ctxO_ok 9000 _ gLO8 (by kernel_rfl) (q8_RRp s n k f fa fb d r w) (tr_cons (tLi_ok (by omega)) (tr_cons (tLn8_ok (by omega)) (tr_cons (tMe_ok (by omega)) (tr_cons (tD_ok (by omega)) (tr_cons (tD_ok (by omega)) (tr_cons (tE_ok hd6) (tr_cons (tE_ok hr6) (tr_cons (tPc_ok hp) trivial))))))))).mono (fun u K h => h.1)
end Go.Proofs.Ytpggoincnebfnaa
end
