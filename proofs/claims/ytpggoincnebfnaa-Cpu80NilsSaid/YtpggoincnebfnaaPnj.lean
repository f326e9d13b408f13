/- Part 10 of the texts that the law needs, laid together. By program (pack.py). -/
import Derived.Test.YtpggoincnebfnaaPnh
import Derived.Test.YtpggoincnebfnaaPni
import Derived.KernelRfl
set_option linter.unusedVariables false
set_option linter.unusedSimpArgs false
noncomputable section
namespace Go.Proofs.Ytpggoincnebfnaa
open Go Go.Ly Go.RowKit
variable (m : Mc) (g : Nat → Int) (b1 b2 : Int)
@[simp] def ze0_0 (m : Mc) (g : Nat → Int) : Mc := { m with pc := or16 (w16 (g (ix (w16 (w16 (m.sp + 2) - 2))))) (w16 (w16 (g (ix (w16 (w16 (w16 (m.sp + 2) - 2) + 1)))) * 256)), sp := w16 (m.sp + 2) }
@[simp] def ze1_0 (m : Mc) (g : Nat → Int) : Mc := { m with pc := w16 (m.pc + 1), r4 := w8 ((or16 (w16 (g (ix (w16 (w16 (m.sp + 2) - 2))))) (w16 (w16 (g (ix (w16 (w16 (w16 (m.sp + 2) - 2) + 1)))) * 256))).fdiv 256), r5 := w8 (or16 (w16 (g (ix (w16 (w16 (m.sp + 2) - 2))))) (w16 (w16 (g (ix (w16 (w16 (w16 (m.sp + 2) - 2) + 1)))) * 256))), sp := w16 (m.sp + 2) }
@[simp] def ze3_0 (m : Mc) (g : Nat → Int) : Mc := { m with pc := w16 (m.pc + 1), r4 := w8 ((or16 (w16 (g (ix m.sp))) (w16 (w16 (g (ix (w16 (m.sp + 1)))) * 256))).fdiv 256), r5 := w8 (or16 (w16 (g (ix m.sp))) (w16 (w16 (g (ix (w16 (m.sp + 1)))) * 256))) }
@[simp] def ze5_0 (m : Mc) : Mc := { m with pc := w16 (m.pc + 1), sp := w16 (m.sp - 2) }
@[simp] def ze6_0 (m : Mc) (g : Nat → Int) : Mc := { m with fc := false, fp := par (and8 m.r7 (w8 (or16 0 (w16 (g (at1 m.pc 1)))))), fs := decide (128 ≤ and8 m.r7 (w8 (or16 0 (w16 (g (at1 m.pc 1)))))), fx := and8 (or8 m.r7 (w8 (or16 0 (w16 (g (at1 m.pc 1)))))) 8 != 0, fz := and8 m.r7 (w8 (or16 0 (w16 (g (at1 m.pc 1))))) == 0, pc := w16 (m.pc + 2), r7 := and8 m.r7 (w8 (or16 0 (w16 (g (at1 m.pc 1))))) }
@[simp] def ze6_1 (m : Mc) (b1 : Int) : Mc := { m with fc := false, fp := par (and8 m.r7 (w8 (or16 0 (w16 b1)))), fs := decide (128 ≤ and8 m.r7 (w8 (or16 0 (w16 b1)))), fx := and8 (or8 m.r7 (w8 (or16 0 (w16 b1)))) 8 != 0, fz := and8 m.r7 (w8 (or16 0 (w16 b1))) == 0, pc := w16 (m.pc + 2), r7 := and8 m.r7 (w8 (or16 0 (w16 b1))) }
@[simp] def ze7_0 (m : Mc) : Mc := { m with pc := 32, sp := w16 (m.sp - 2) }
@[simp] def ze8_0 (m : Mc) (g : Nat → Int) : Mc := { m with pc := or16 (w16 (g (ix (w16 (w16 (m.sp + 2) - 2))))) (w16 (w16 (g (ix (w16 (w16 (w16 (m.sp + 2) - 2) + 1)))) * 256)), sp := w16 (m.sp + 2) }
@[simp] def ze9_0 (m : Mc) : Mc := { m with pc := or16 (w16 (w16 m.r4 * 256)) (w16 m.r5) }
@[simp] def zeb_0 (m : Mc) : Mc := { m with pc := w16 (m.pc + 1), r2 := w8 ((or16 (w16 (w16 m.r4 * 256)) (w16 m.r5)).fdiv 256), r3 := w8 (or16 (w16 (w16 m.r4 * 256)) (w16 m.r5)), r4 := w8 ((or16 (w16 (w16 m.r2 * 256)) (w16 m.r3)).fdiv 256), r5 := w8 (or16 (w16 (w16 m.r2 * 256)) (w16 m.r3)) }
@[simp] def zee_0 (m : Mc) (g : Nat → Int) : Mc := { m with fc := false, fp := par (xor8 m.r7 (w8 (or16 0 (w16 (g (at1 m.pc 1)))))), fs := decide (128 ≤ xor8 m.r7 (w8 (or16 0 (w16 (g (at1 m.pc 1)))))), fx := false, fz := xor8 m.r7 (w8 (or16 0 (w16 (g (at1 m.pc 1))))) == 0, pc := w16 (m.pc + 2), r7 := xor8 m.r7 (w8 (or16 0 (w16 (g (at1 m.pc 1))))) }
@[simp] def zee_1 (m : Mc) (b1 : Int) : Mc := { m with fc := false, fp := par (xor8 m.r7 (w8 (or16 0 (w16 b1)))), fs := decide (128 ≤ xor8 m.r7 (w8 (or16 0 (w16 b1)))), fx := false, fz := xor8 m.r7 (w8 (or16 0 (w16 b1))) == 0, pc := w16 (m.pc + 2), r7 := xor8 m.r7 (w8 (or16 0 (w16 b1))) }
@[simp] def zef_0 (m : Mc) : Mc := { m with pc := 40, sp := w16 (m.sp - 2) }
end Go.Proofs.Ytpggoincnebfnaa
namespace Go.Proofs.Ytpggoincnebfnaa
open Go Go.Ly Go.RowKit
variable (m : Mc) (g : Nat → Int) (b1 b2 : Int)
@[simp] def zf0_0 (m : Mc) (g : Nat → Int) : Mc := { m with pc := or16 (w16 (g (ix (w16 (w16 (m.sp + 2) - 2))))) (w16 (w16 (g (ix (w16 (w16 (w16 (m.sp + 2) - 2) + 1)))) * 256)), sp := w16 (m.sp + 2) }
@[simp] def zf1_0 (m : Mc) (g : Nat → Int) : Mc := { m with fc := w8 (or16 (w16 (g (ix (w16 (w16 (m.sp + 2) - 2))))) (w16 (w16 (g (ix (w16 (w16 (w16 (m.sp + 2) - 2) + 1)))) * 256))) % 2 == 1, fp := w8 (or16 (w16 (g (ix (w16 (w16 (m.sp + 2) - 2))))) (w16 (w16 (g (ix (w16 (w16 (w16 (m.sp + 2) - 2) + 1)))) * 256))) / 4 % 2 == 1, fs := decide (128 ≤ w8 (or16 (w16 (g (ix (w16 (w16 (m.sp + 2) - 2))))) (w16 (w16 (g (ix (w16 (w16 (w16 (m.sp + 2) - 2) + 1)))) * 256)))), fx := w8 (or16 (w16 (g (ix (w16 (w16 (m.sp + 2) - 2))))) (w16 (w16 (g (ix (w16 (w16 (w16 (m.sp + 2) - 2) + 1)))) * 256))) / 16 % 2 == 1, fz := w8 (or16 (w16 (g (ix (w16 (w16 (m.sp + 2) - 2))))) (w16 (w16 (g (ix (w16 (w16 (w16 (m.sp + 2) - 2) + 1)))) * 256))) / 64 % 2 == 1, pc := w16 (m.pc + 1), r7 := w8 ((or16 (w16 (g (ix (w16 (w16 (m.sp + 2) - 2))))) (w16 (w16 (g (ix (w16 (w16 (w16 (m.sp + 2) - 2) + 1)))) * 256))).fdiv 256), sp := w16 (m.sp + 2) }
@[simp] def zf3_0 (m : Mc) : Mc := { m with ie := false, pc := w16 (m.pc + 1) }
@[simp] def zf5_0 (m : Mc) : Mc := { m with pc := w16 (m.pc + 1), sp := w16 (m.sp - 2) }
@[simp] def zf6_0 (m : Mc) (g : Nat → Int) : Mc := { m with fc := false, fp := par (or8 m.r7 (w8 (or16 0 (w16 (g (at1 m.pc 1)))))), fs := decide (128 ≤ or8 m.r7 (w8 (or16 0 (w16 (g (at1 m.pc 1)))))), fx := false, fz := or8 m.r7 (w8 (or16 0 (w16 (g (at1 m.pc 1))))) == 0, pc := w16 (m.pc + 2), r7 := or8 m.r7 (w8 (or16 0 (w16 (g (at1 m.pc 1))))) }
@[simp] def zf6_1 (m : Mc) (b1 : Int) : Mc := { m with fc := false, fp := par (or8 m.r7 (w8 (or16 0 (w16 b1)))), fs := decide (128 ≤ or8 m.r7 (w8 (or16 0 (w16 b1)))), fx := false, fz := or8 m.r7 (w8 (or16 0 (w16 b1))) == 0, pc := w16 (m.pc + 2), r7 := or8 m.r7 (w8 (or16 0 (w16 b1))) }
@[simp] def zf7_0 (m : Mc) : Mc := { m with pc := 48, sp := w16 (m.sp - 2) }
@[simp] def zf8_0 (m : Mc) (g : Nat → Int) : Mc := { m with pc := or16 (w16 (g (ix (w16 (w16 (m.sp + 2) - 2))))) (w16 (w16 (g (ix (w16 (w16 (w16 (m.sp + 2) - 2) + 1)))) * 256)), sp := w16 (m.sp + 2) }
@[simp] def zf9_0 (m : Mc) : Mc := { m with pc := w16 (m.pc + 1), sp := or16 (w16 (w16 m.r4 * 256)) (w16 m.r5) }
@[simp] def zfb_0 (m : Mc) : Mc := { m with ie := true, pc := w16 (m.pc + 1) }
@[simp] def zfe_0 (m : Mc) (g : Nat → Int) : Mc := { m with fc := decide (m.r7 - w8 (or16 0 (w16 (g (at1 m.pc 1)))) - 0 < 0), fp := par ((m.r7 - w8 (or16 0 (w16 (g (at1 m.pc 1)))) - 0) % 256), fs := decide (128 ≤ (m.r7 - w8 (or16 0 (w16 (g (at1 m.pc 1)))) - 0) % 256), fx := decide (15 < m.r7 % 16 + 15 - w8 (or16 0 (w16 (g (at1 m.pc 1)))) % 16 + 1), fz := (m.r7 - w8 (or16 0 (w16 (g (at1 m.pc 1)))) - 0) % 256 == 0, pc := w16 (m.pc + 2) }
@[simp] def zfe_1 (m : Mc) (b1 : Int) : Mc := { m with fc := decide (m.r7 - w8 (or16 0 (w16 b1)) - 0 < 0), fp := par ((m.r7 - w8 (or16 0 (w16 b1)) - 0) % 256), fs := decide (128 ≤ (m.r7 - w8 (or16 0 (w16 b1)) - 0) % 256), fx := decide (15 < m.r7 % 16 + 15 - w8 (or16 0 (w16 b1)) % 16 + 1), fz := (m.r7 - w8 (or16 0 (w16 b1)) - 0) % 256 == 0, pc := w16 (m.pc + 2) }
@[simp] def zff_0 (m : Mc) : Mc := { m with pc := 56, sp := w16 (m.sp - 2) }
end Go.Proofs.Ytpggoincnebfnaa
namespace Go.Proofs.Ytpggoincnebfnaa
open Go Go.Ly Go.RowKit
variable (m : Mc) (g : Nat → Int) (b1 b2 : Int)
end Go.Proofs.Ytpggoincnebfnaa
namespace Go.Proofs.Ytpggoincnebfnaa
open Go Go.Ly Go.RowKit
def StepsTo (s s' : Js) (k : Int) : Prop := (∀ H p O V, PM H p s O V → H.lock = 0 → Ly.Clean H → H.next + 64 < big → LCalls Try.prog 13 [ptr p] H (fun u H' => u = .int .i64 k ∧ PN H p s' O V H')) ∧ (∀ H p O V, RM H p s O V → H.lock = 0 → Ly.Clean H → H.next + 64 < big → LCalls Try.prog 14 [ptr p] H (fun u H' => u = .int .i64 k ∧ RN H p s' O V H'))
theorem steps_tok {s : Js} {m' : Mc} {g' : Nat → Int} {k : Int} (h1 : Ly.Ends Try.prog 13 [ptr 0] (hP s.m s.g) [0, 1] (.int .i64 k) 64 (hP m' g')) (h2 : Ly.Ends Try.prog 14 [ptr 0] (hR s.m s.g) [0, 1, 2] (.int .i64 k) 64 (hR m' g')) :
    StepsTo s { s with m := m', g := g' } k :=
  ⟨fun H p O V h hl hc hb => P_tok h hl hc hb h1, fun H p O V h hl hc hb => R_tok h hl hc hb h2⟩
theorem haltP (m : Mc) (g : Nat → Int) : endsAt [0, 1] (Ly.run ctx3 100 [(1, true)] (Ly.start Try.f13 [ptr 0] (mkH (hP m g)))) = some ([(m.halt, true)], .int .i64 13, 2, hP m g) := by kernel_rfl
theorem haltR (m : Mc) (g : Nat → Int) : endsAt [0, 1, 2] (Ly.run ctx3 100 [(0, true)] (Ly.start Try.f14 [ptr 0] (mkH (hR m g)))) = some ([(m.halt, true)], .int .i64 13, 3, hR m g) := by kernel_rfl
theorem step_halt {s : Js} (hh : s.m.halt = true) : StepsTo s s 13 := by
  have e1 : Ly.Ends Try.prog 13 [ptr 0] (hP s.m s.g) [0, 1] (.int .i64 13) 2 (hP s.m s.g) := Ends.of_run ctx3_ok 100 _ gP13 (by kernel_rfl) (haltP s.m s.g) (by simp [hh])
  have e2 : Ly.Ends Try.prog 14 [ptr 0] (hR s.m s.g) [0, 1, 2] (.int .i64 13) 3 (hR s.m s.g) := Ends.of_run ctx3_ok 100 _ gP14 (by kernel_rfl) (haltR s.m s.g) (by simp [hh])
  exact steps_tok (e1.grow (by omega) (by unfold big; omega)) (e2.grow (by omega) (by unfold big; omega))
theorem step_hlt {s : Js} (hs : s.Ok) (hh : s.m.halt = false) (h0 : s.g (ix s.m.pc) = 118) : StepsTo s { s with m := { s.m with pc := w16 (s.m.pc + 1), halt := true } } 0 := by
  have hm := hs.m
  have e1 := MWp.ends ctx3_ok 3000 _ (p76_0 s.m s.g (s.g (at1 s.m.pc 1)) (s.g (at1 s.m.pc 2))) (by simp [*])
  have e2 := MWp.ends ctx3_ok 3000 _ (r76_0 s.m s.g) (by have := hm.pc; simp [*])
  have h0' : s.g (0 + s.m.pc.toNat * 1) = 118 := h0
  refine steps_tok (s := s) (m' := { s.m with pc := w16 (s.m.pc + 1), halt := true }) (g' := s.g) ?_ ?_
  · have e3 : Ly.Ends Try.prog 13 [ptr 0] (hP s.m s.g) [0, 1] (.int .i64 0) 5 (hPm { s.m with pc := w16 (s.m.pc + 1), halt := true } (memL s.g)) := by
      refine LCalls_of ctx3_ok gP13 (by kernel_rfl) (MWp.halted (haltAt_ok ctx3_ok 27) [0, 53] 300 pathP (juncP s.m s.g) (trP hm hh) ?_)
      rw [h0']; exact e1
    exact e3.grow (by decide) (by unfold big; omega)
  · have e3 : Ly.Ends Try.prog 14 [ptr 0] (hR s.m s.g) [0, 1, 2] (.int .i64 0) 3 (hRm { s.m with pc := w16 (s.m.pc + 1), halt := true } (memL s.g)) := by
      refine LCalls_of ctx3_ok gP14 (by kernel_rfl) (MWp.halted (haltAt_ok ctx3_ok 32) [0, 3, 20] 300 pathR (juncR s.m s.g) (trR hm hh) ?_)
      rw [h0']; exact e2
    exact e3.grow (by decide) (by unfold big; omega)
end Go.Proofs.Ytpggoincnebfnaa
namespace Go.Ly
open Go.RowKit
def RO.fin? : RO → Option (List (Bool × Bool) × Value × Heap)
  | .ok t (.done v H) => some (t, v, H)
  | _ => none
theorem MWp.fin {P : Program} {C : Ctx} {Q : Value → Heap → Prop} (hC : C.Ok P) {S : St} {t : List (Bool × Bool)} {v : Value} {H : Heap} (n : Nat) (p : Path) (h : (run C n p S).fin? = some (t, v, H)) (htr : trusted t) (hq : Q v H) : MWp P S Q := by
  cases hr : run C n p S with
  | no => rw [hr] at h; cases h
  | ok t' l =>
    cases l with
    | halt S' => rw [hr] at h; cases h
    | done v' H' =>
      rw [hr] at h
      simp only [RO.fin?, Option.some.injEq, Prod.mk.injEq] at h
      obtain ⟨rfl, rfl, rfl⟩ := h
      exact run_sound hC n p S _ _ hr htr hq
end Go.Ly
namespace Go.Proofs.Ytpggoincnebfnaa
open Go Go.Ly Go.RowKit
def cntV (c k : Int) : Value := .tuple ⟨[.int .i64 c, .int .i64 k]⟩
def rd16 : St := Ly.start Try.f16 [] H0
def k16 : List KI := ((Ly.run ctxH 60 [] (Ly.start Try.f16 [ptr 0, .int .i64 1] H0)).st rd16).top.k
def v16 (p : Nat) (n d : Int) : List Value := slots 22 [(0, ptr p), (1, .int .i64 n), (6, .int .i64 d), (13, ptr p)]
theorem gH16 : ctxH.fn.get 16 = some Try.f16 := by kernel_rfl
theorem run16_0 (p : Nat) (n : Int) (H : Heap) : (Ly.run ctxH 60 [(1, false)] (Ly.start Try.f16 [ptr p, .int .i64 n] H)).fin? = some ([(decide (0 < n), false)], cntV 0 0, H) := by kernel_rfl
theorem run16_1 (p : Nat) (n : Int) (H : Heap) : haltF [0, 1, 6, 13] rd16 (Ly.run ctxH 60 [(1, true)] (Ly.start Try.f16 [ptr p, .int .i64 n] H)) = (true, [(decide (0 < n), true)], true, (Try.f16, k16, none, H.next), v16 p n 0, H) := by kernel_rfl
theorem run16_k (p b : Nat) (n d k : Int) (H H' : Heap) : (Ly.run ctxH 60 [(0, true)] (behind (atSt Try.f16 k16 none b (v16 p n d) H) (.int .i64 k) H')).fin? = some ([(k != 0, true)], cntV d k, H') := by kernel_rfl
theorem call16 (p b : Nat) (n d : Int) (H : Heap) : callOf env (atSt Try.f16 k16 none b (v16 p n d) H) = some (13, [ptr p]) := by kernel_rfl
structure NxN (H H' : Heap) (O : List Nat) (m : Nat) : Prop where
  lock : H'.lock = 0
  le : H.next ≤ H'.next
  ge : H'.next ≤ H.next + m
  clean : Ly.Clean H'
  old : ∀ i, i < H.next → i ∉ O → H'.get i = H.get i
def MN (M : Heap → Nat → Js → List Nat → List Nat → Prop) (H : Heap) (p : Nat) (s' : Js) (O V : List Nat) (m : Nat) (H' : Heap) : Prop := NxN H H' O m ∧ ∃ O' V', M H' p s' O' V' ∧ (∀ i ∈ O', i ∈ O ∨ H.next ≤ i) ∧ (∀ i ∈ V', i ∈ V ∨ H.next ≤ i)
theorem MN.step {M : Heap → Nat → Js → List Nat → List Nat → Prop} {H H1 H2 : Heap} {p m : Nat} {s2 : Js} {O V O1 V1 : List Nat} (h1 : Nx H H1 O) (hO : ∀ i ∈ O1, i ∈ O ∨ H.next ≤ i) (hV : ∀ i ∈ V1, i ∈ V ∨ H.next ≤ i) (h2 : MN M H1 p s2 O1 V1 m H2) : MN M H p s2 O V (m + 64) H2 := by
  obtain ⟨⟨a1, a2, a3, a4, a5⟩, O', V', b1, b2, b3⟩ := h2
  refine ⟨⟨a1, by have := h1.le; omega, by have := h1.ge; omega, a4, fun i hi hiO => ?_⟩, O', V', b1, fun i hi => ?_, fun i hi => ?_⟩
  · rw [a5 i (by have := h1.le; omega) (fun h => ?_), h1.old i hi hiO]
    rcases hO i h with h3 | h3
    · exact hiO h3
    · omega
  · rcases b2 i hi with h3 | h3
    · exact hO i h3
    · right; have := h1.le; omega
  · rcases b3 i hi with h3 | h3
    · exact hV i h3
    · right; have := h1.le; omega
theorem MN.of {M : Heap → Nat → Js → List Nat → List Nat → Prop} {H H1 : Heap} {p : Nat} {s1 : Js} {O V O1 V1 : List Nat} (m : Nat) (h1 : Nx H H1 O) (hO : ∀ i ∈ O1, i ∈ O ∨ H.next ≤ i) (hV : ∀ i ∈ V1, i ∈ V ∨ H.next ≤ i) (h : M H1 p s1 O1 V1) : MN M H p s1 O V (m + 64) H1 :=
  ⟨⟨h1.lock, h1.le, by have := h1.ge; omega, h1.clean, h1.old⟩, O1, V1, h, hO, hV⟩
theorem MN.refl {M : Heap → Nat → Js → List Nat → List Nat → Prop} {H : Heap} {p : Nat} {s : Js} {O V : List Nat} (m : Nat) (hl : H.lock = 0) (hc : Ly.Clean H) (h : M H p s O V) : MN M H p s O V m H :=
  ⟨⟨hl, Nat.le_refl _, by omega, hc, fun _ _ _ => rfl⟩, O, V, h, fun i hi => .inl hi, fun i hi => .inl hi⟩
end Go.Proofs.Ytpggoincnebfnaa
namespace Go.Proofs.Ytpggoincnebfnaa
open Go Go.Ly Go.RowKit
def MRowS (w : World) (i : Nat) (a b : Nat → Int) (n : Nat) (loc v : Value) (p : Option Plc) : Prop :=
  (loc = .slice none 0 0 ∧ v = .slice none 0 0 ∧ n = 0 ∧ p = none) ∨ (loc = sls i n ∧ RealRows w 2 (fun e j => match j with | 0 => .int .u16 (a e) | _ + 1 => .int .u8 (b e)) n v p)
theorem m_casesS {w : World} {v : Value} (h : CkOk w (.slice [.int .u16, .int .u8]) v) : ∃ (a b : Nat → Int) (n : Nat) (loc : Value) (p : Option Plc), MRowS w 1 a b n loc v p ∧ (∀ e, e < n → B16 (a e) ∧ B8 (b e)) ∧ n ≤ maxLen := by
  rcases ck_bytes2 h with rfl | ⟨n, a, b, p, hr, hf, hn⟩
  · exact ⟨fun _ => 0, fun _ => 0, 0, .slice none 0 0, none, .inl ⟨rfl, rfl, rfl, rfl⟩, fun e he => by omega, by simp [maxLen]⟩
  · exact ⟨a, b, n, sls 1 n, p, .inr ⟨rfl, hr⟩, hf, hn⟩
theorem calls_startS {W : World} {F : FuncId} {s : Sv} {f a b : Nat → Int} {n k : Nat} {li lm iv mv : Value} {pi pm : Option Plc} {rest : List Value} (hi : InRow W 0 f n li iv pi) (hm : MRowS W 1 a b k lm mv pm) (hp : plainL rest = true)
    (h : LCalls Try.prog F (svV s li lm :: rest) (mkH [some (ints .u8 f n), some (bytes2 a b k)]) (fun u _ => u = .bool true)) :
    Calls Try.prog F ⟨svV s iv mv :: rest⟩ W (fun e W' => e = .returned (.bool true) ∧ Below W.heap.size W W') := by
  have hrep : Rep (rowsRenW [pi, pm] (fun i => if i = 0 then 1 else 2)) (mkH [some (ints .u8 f n), some (bytes2 a b k)]) W := by
    refine rowsW_rep (l := [pi, pm]) (rs := [(1, fun e _ => .int .u8 (f e), n), (2, fun e j => match j with | 0 => .int .u16 (a e) | _ + 1 => .int .u8 (b e), k)]) rfl (by simp) (fun i q hq => ?_) (fun i k' g n' hr => ?_)
    · match i, hq with
      | 0, hq =>
        simp at hq
        rcases hi with ⟨_, _, _, rfl⟩ | ⟨_, hr⟩
        · cases hq
        · exact hr.low q hq
      | 1, hq =>
        simp at hq
        rcases hm with ⟨_, _, _, rfl⟩ | ⟨_, hr⟩
        · cases hq
        · exact hr.low q hq
      | i + 2, hq => simp at hq
    · match i, hr with
      | 0, hr =>
        simp at hr
        obtain ⟨rfl, rfl, rfl⟩ := hr
        refine ⟨rfl, fun e j he hj => ?_⟩
        rcases hi with ⟨_, _, h0, _⟩ | ⟨_, hr⟩
        · omega
        · exact ⟨hr.one e j he hj, hr.cell e j he hj⟩
      | 1, hr =>
        simp at hr
        obtain ⟨rfl, rfl, rfl⟩ := hr
        refine ⟨rfl, fun e j he hj => ?_⟩
        rcases hm with ⟨_, _, h0, _⟩ | ⟨_, hr⟩
        · omega
        · exact ⟨hr.one e j he hj, hr.cell e j he hj⟩
      | i + 2, hr => simp at hr
  have vi : VR (rowsRenW [pi, pm] (fun i => if i = 0 then 1 else 2)) li iv := by
    rcases hi with ⟨rfl, rfl, _, _⟩ | ⟨rfl, hr⟩
    · simp [VR]
    · exact slW_VR hr rfl
  have vm : VR (rowsRenW [pi, pm] (fun i => if i = 0 then 1 else 2)) lm mv := by
    rcases hm with ⟨rfl, rfl, _, _⟩ | ⟨rfl, hr⟩
    · simp [VR]
    · exact VR_sls (slW_VR hr rfl)
  refine calls_ro h rfl ?_ hrep (fun _ => rfl)
  simp only [VRL]
  refine ⟨_, rest, ?_, plainL_VR _ hp, rfl⟩
  simp only [svV, VR, VRL]
  exact ⟨_, ⟨_, _, rfl, ⟨_, _, rfl, ⟨_, _, rfl, ⟨_, _, rfl, ⟨_, _, rfl, ⟨_, _, rfl, ⟨_, _, rfl, ⟨_, _, rfl, ⟨_, _, rfl, ⟨_, _, rfl, ⟨_, _, rfl, ⟨_, _, rfl, ⟨_, _, rfl, ⟨_, _, rfl, ⟨_, _, rfl, ⟨_, _, rfl, ⟨_, _, vi, ⟨_, _, vm, rfl, rfl⟩, rfl⟩, rfl⟩, rfl⟩, rfl⟩, rfl⟩, rfl⟩, rfl⟩, rfl⟩, rfl⟩, rfl⟩, rfl⟩, rfl⟩, rfl⟩, rfl⟩, rfl⟩, rfl⟩, rfl⟩, rfl⟩
end Go.Proofs.Ytpggoincnebfnaa
namespace Go.Proofs.Ytpggoincnebfnaa
open Go Go.Ly Go.RowKit
def Gok (n : Nat) (G : Nat → Nat → Value) : Prop := ∀ e, e < n → ∃ x y, G e 0 = .int .u16 x ∧ G e 1 = .int .u8 y ∧ B16 x ∧ B8 y
theorem Gok.ok {n : Nat} {G : Nat → Nat → Value} (h : Gok n G) (hn : n ≤ 1000) : okM n G = true := by
  unfold okM
  rw [Bool.and_eq_true, Nat.ble_eq, List.all_eq_true]
  refine ⟨hn, fun e he => ?_⟩
  obtain ⟨x, y, h1, h2, h3, h4⟩ := h e (List.mem_range.1 he)
  rw [h1, h2]
  simp [isK, kbeq, intV, h3]
theorem Gok.mem {n : Nat} {G : Nat → Nat → Value} (h : Gok n G) : Mem (memF (atOf G) (byOf G) n) := by
  refine memF_mem n fun e he => ?_
  obtain ⟨x, y, h1, h2, h3, h4⟩ := h e he
  show B8 (intV (G e 1))
  rw [h2]; exact h4
theorem Gok.shift {n : Nat} {G : Nat → Nat → Value} (h : Gok n G) : Gok n (fun i j => G (0 + i) j) := fun e he => by
  simp only [Nat.zero_add]; exact h e he
theorem Gok.join {m n : Nat} {g h : Nat → Nat → Value} (hg : Gok m g) (hh : Gok n h) : Gok (m + n) (joinG m g h) := fun e he => by
  simp only [joinG, vif_eq]
  cases hb : Nat.blt e m with
  | true => exact hg e (by simpa [Nat.blt_eq] using hb)
  | false =>
    have : ¬ e < m := fun x => by
      have : Nat.blt e m = true := by simpa [Nat.blt_eq] using x
      rw [this] at hb; cases hb
    exact hh (e - m) (by omega)
def bbG (fa fb : Nat → Int) : Nat → Nat → Value := fun e j => match j with | 0 => .int .u16 (fa e) | _ + 1 => .int .u8 (fb e)
theorem Gok.bb {fa fb : Nat → Int} {n : Nat} (h : ∀ e, e < n → B16 (fa e) ∧ B8 (fb e)) : Gok n (bbG fa fb) := fun e he => ⟨fa e, fb e, rfl, rfl, h e he⟩
theorem Gok.nil {G : Nat → Nat → Value} : Gok 0 G := fun e he => by omega
theorem Gok.cons {n : Nat} {x y : Int} {l : List Value} (hx : B16 x) (hy : B8 y) (h : Gok n (lstG 2 n l)) : Gok (n + 1) (lstG 2 (n + 1) (.int .u16 x :: .int .u8 y :: l)) := fun e he => by
  cases n with
  | zero =>
    obtain rfl : e = 0 := by omega
    exact ⟨x, y, rfl, rfl, hx, hy⟩
  | succ n =>
    cases e with
    | zero => exact ⟨x, y, by rw [lstG, vif_eq]; rfl, by rw [lstG, vif_eq]; rfl, hx, hy⟩
    | succ e =>
      obtain ⟨u, v, h1, h2, h3⟩ := h e (by omega)
      have e1 : Nat.beq (e + 1) 0 = false := rfl
      exact ⟨u, v, by rw [lstG, vif_eq, e1]; exact h1, by rw [lstG, vif_eq, e1]; exact h2, h3⟩
def mOf (s : Sv) : Mc := ⟨s.r0, s.r1, s.r2, s.r3, s.r4, s.r5, s.r7, s.fs, s.fz, s.fx, s.fp, s.fc, s.sp, s.pc, s.ie, false⟩
theorem mOf_ok {s : Sv} (h : s.Ok) : (mOf s).Ok := by
  obtain ⟨⟨h0, h1, h2, h3, h4, h5, h6, h7⟩, h8, h9⟩ := h
  exact ⟨h0, h1, h2, h3, h4, h5, h7, h8, h9⟩
def jOf (s : Sv) (g : Nat → Int) (N : Nat) (f : Nat → Int) : Js := ⟨mOf s, g, 0, N, f, 0, fun _ => 0, fun _ => 0⟩
theorem jOf_ok {s : Sv} {g : Nat → Int} {N : Nat} {f : Nat → Int} (hs : s.Ok) (hg : Mem g) (hf : ∀ e, e < N → B8 (f e)) : (jOf s g N f).Ok := ⟨mOf_ok hs, hg, hf, Nat.zero_le _⟩
structure Opened (H : Heap) (p r : Nat) (s : Js) (O V O2 V2 : List Nat) : Prop where
  lock : H.lock = 0
  clean : Ly.Clean H
  P : PM H p s O V
  R : RM H r s O2 V2
  apart : Apart V V2
theorem opened_N {H : Heap} {s : Sv} {g : Nat → Int} {f : Nat → Int} {p b r b2 rg : Nat} (hl : H.lock = 0) (hc : Ly.Clean H) (h1 : H.get p = some (.cells (cellsPb b 0 (mOf s) nilV nilV) 60)) (h2 : H.get b = some (memL g))
    (h3 : H.get r = some (.cells (cellsRb b2 rg (mOf s) nilV nilV) 56)) (h4 : H.get b2 = some (memL g)) (h5 : H.get rg = some (regsR (mOf s))) (hn : ([p, b] ++ [r, b2, rg]).Nodup) :
    Opened H p r (jOf s g 0 f) [p, b] [p, b] [r, b2, rg] [r, b2, rg] := by
  have hd := List.nodup_append.1 hn
  exact ⟨hl, hc, ⟨b, 0, nilV, nilV, [], [], ⟨h1, h2, trivial, .inl ⟨rfl, rfl, .inl rfl⟩, .inl ⟨rfl, rfl, rfl⟩, hd.1⟩, rfl, rfl⟩,
    ⟨b2, rg, nilV, nilV, [], [], ⟨h3, h4, h5, .inl ⟨rfl, rfl, .inl rfl⟩, .inl ⟨rfl, rfl, rfl⟩, hd.2.1⟩, rfl, rfl⟩, fun i hi hi2 => hd.2.2 i hi i hi2 rfl⟩
theorem opened_E {H : Heap} {s : Sv} {g : Nat → Int} {f : Nat → Int} {p b r b2 rg c c2 : Nat} {a a2 : Addr} (hl : H.lock = 0) (hc : Ly.Clean H) (h1 : H.get p = some (.cells (cellsPb b 0 (mOf s) (.slice (some a) 0 c) nilV) 60)) (h2 : H.get b = some (memL g))
    (h3 : H.get r = some (.cells (cellsRb b2 rg (mOf s) (.slice (some a2) 0 c2) nilV) 56)) (h4 : H.get b2 = some (memL g)) (h5 : H.get rg = some (regsR (mOf s))) (hn : ([p, b] ++ [r, b2, rg]).Nodup) :
    Opened H p r (jOf s g 0 f) [p, b] [p, b] [r, b2, rg] [r, b2, rg] := by
  have hd := List.nodup_append.1 hn
  exact ⟨hl, hc, ⟨b, 0, _, nilV, [], [], ⟨h1, h2, trivial, .inl ⟨rfl, rfl, .inr ⟨_, _, rfl⟩⟩, .inl ⟨rfl, rfl, rfl⟩, hd.1⟩, rfl, rfl⟩,
    ⟨b2, rg, _, nilV, [], [], ⟨h3, h4, h5, .inl ⟨rfl, rfl, .inr ⟨_, _, rfl⟩⟩, .inl ⟨rfl, rfl, rfl⟩, hd.2.1⟩, rfl, rfl⟩, fun i hi hi2 => hd.2.2 i hi i hi2 rfl⟩
theorem opened_R {H : Heap} {s : Sv} {g : Nat → Int} {f : Nat → Int} {p b r b2 rg x x2 n : Nat} (hl : H.lock = 0) (hc : Ly.Clean H) (h1 : H.get p = some (.cells (cellsPb b 0 (mOf s) (inV x 0 (n + 1)) nilV) 60)) (h2 : H.get b = some (memL g))
    (h3 : H.get r = some (.cells (cellsRb b2 rg (mOf s) (inV x2 0 (n + 1)) nilV) 56)) (h4 : H.get b2 = some (memL g)) (h5 : H.get rg = some (regsR (mOf s))) (hx : H.get x = some (rowP f (n + 1))) (hx2 : H.get x2 = some (rowR f (n + 1)))
    (hn : ([p, b, x] ++ [r, b2, rg, x2]).Nodup) : Opened H p r (jOf s g (n + 1) f) [p, b] [p, b, x] [r, b2, rg] [r, b2, rg, x2] := by
  have hd := List.nodup_append.1 hn
  exact ⟨hl, hc, ⟨b, 0, _, nilV, [x], [], ⟨h1, h2, trivial, .inr ⟨Nat.succ_pos n, x, rfl, rfl, hx⟩, .inl ⟨rfl, rfl, rfl⟩, hd.1⟩, rfl, rfl⟩,
    ⟨b2, rg, _, nilV, [x2], [], ⟨h3, h4, h5, .inr ⟨Nat.succ_pos n, x2, rfl, rfl, hx2⟩, .inl ⟨rfl, rfl, rfl⟩, hd.2.1⟩, rfl, rfl⟩, fun i hi hi2 => hd.2.2 i hi i hi2 rfl⟩
end Go.Proofs.Ytpggoincnebfnaa
namespace Go.Proofs.Ytpggoincnebfnaa
open Go Go.Ly Go.RowKit
abbrev TrueAt (F : FuncId) (args : List Value) (r0 r1 : LO) : Prop := LCalls Try.prog F args (mkH [some r0, some r1]) (fun u _ => u = .bool true)
theorem start_law {W : World} {F : FuncId} {v : Value} {rest : List Value} (h : ∃ cs, v = .agg ⟨cs⟩ ∧ CksOk W [.int .u8, .int .u8, .int .u8, .int .u8, .int .u8, .int .u8, .int .u8, .int .u8, .bool, .bool, .bool, .bool, .bool, .int .u16, .int .u16, .bool, .slice [.int .u8], .slice [.int .u16, .int .u8]] cs) (hp : plainL rest = true)
    (hNN : ∀ (s : Sv) (n k : Nat) (f fa fb : Nat → Int), s.Ok → TrueAt F (svV s nilS nilS :: rest) (ints .u8 f n) (bytes2 fa fb k))
    (hNE : ∀ (s : Sv) (n k : Nat) (f fa fb : Nat → Int), s.Ok → TrueAt F (svV s nilS (sls 1 0) :: rest) (ints .u8 f n) (bytes2 fa fb 0))
    (hNR : ∀ (s : Sv) (n k : Nat) (f fa fb : Nat → Int), s.Ok → (∀ e, e < k + 1 → B16 (fa e) ∧ B8 (fb e)) → TrueAt F (svV s nilS (sls 1 (k + 1)) :: rest) (ints .u8 f n) (bytes2 fa fb (k + 1)))
    (hEN : ∀ (s : Sv) (n k : Nat) (f fa fb : Nat → Int), s.Ok → TrueAt F (svV s (sl 0 0) nilS :: rest) (ints .u8 f 0) (bytes2 fa fb k))
    (hEE : ∀ (s : Sv) (n k : Nat) (f fa fb : Nat → Int), s.Ok → TrueAt F (svV s (sl 0 0) (sls 1 0) :: rest) (ints .u8 f 0) (bytes2 fa fb 0))
    (hER : ∀ (s : Sv) (n k : Nat) (f fa fb : Nat → Int), s.Ok → (∀ e, e < k + 1 → B16 (fa e) ∧ B8 (fb e)) → TrueAt F (svV s (sl 0 0) (sls 1 (k + 1)) :: rest) (ints .u8 f 0) (bytes2 fa fb (k + 1)))
    (hRN : ∀ (s : Sv) (n k : Nat) (f fa fb : Nat → Int), s.Ok → (∀ e, e < n + 1 → B8 (f e)) → TrueAt F (svV s (sl 0 (n + 1)) nilS :: rest) (ints .u8 f (n + 1)) (bytes2 fa fb k))
    (hRE : ∀ (s : Sv) (n k : Nat) (f fa fb : Nat → Int), s.Ok → (∀ e, e < n + 1 → B8 (f e)) → TrueAt F (svV s (sl 0 (n + 1)) (sls 1 0) :: rest) (ints .u8 f (n + 1)) (bytes2 fa fb 0))
    (hRR : ∀ (s : Sv) (n k : Nat) (f fa fb : Nat → Int), s.Ok → (∀ e, e < n + 1 → B8 (f e)) → (∀ e, e < k + 1 → B16 (fa e) ∧ B8 (fb e)) → TrueAt F (svV s (sl 0 (n + 1)) (sls 1 (k + 1)) :: rest) (ints .u8 f (n + 1)) (bytes2 fa fb (k + 1))) :
    Calls Try.prog F ⟨v :: rest⟩ W (fun e W' => e = .returned (.bool true) ∧ Below W.heap.size W W') := by
  obtain ⟨s, iv, mv, hs, rfl, hi, hm⟩ := sv_open h
  obtain ⟨f, n, li, pi, hI, hf, _⟩ := in_cases hi
  obtain ⟨a, b, k, lm, pm, hM, hb, _⟩ := m_casesS hm
  refine calls_startS hI hM hp ?_
  rcases hI with ⟨rfl, _, _, _⟩ | ⟨rfl, _⟩ <;> rcases hM with ⟨rfl, _, _, _⟩ | ⟨rfl, _⟩
  · exact hNN s n k f a b hs
  · rcases k with _ | k
    · exact hNE s n 0 f a b hs
    · exact hNR s n k f a b hs hb
  · rcases n with _ | n
    · exact hEN s 0 k f a b hs
    · exact hRN s n k f a b hs hf
  · rcases n with _ | n <;> rcases k with _ | k
    · exact hEE s 0 0 f a b hs
    · exact hER s 0 k f a b hs hb
    · exact hRE s n 0 f a b hs hf
    · exact hRR s n k f a b hs hf hb
end Go.Proofs.Ytpggoincnebfnaa
namespace Go.Proofs.Ytpggoincnebfnaa
open Go Go.Ly Go.RowKit
theorem PM.sub {H : Heap} {p : Nat} {s : Js} {O V : List Nat} (h : PM H p s O V) : ∀ i ∈ O, i ∈ V := by
  obtain ⟨b, rg, iv, ov, VI, VO, h, rfl, rfl⟩ := h
  intro i hi; simp at hi ⊢; grind
theorem RM.sub {H : Heap} {p : Nat} {s : Js} {O V : List Nat} (h : RM H p s O V) : ∀ i ∈ O, i ∈ V := by
  obtain ⟨b, rg, iv, ov, VI, VO, h, rfl, rfl⟩ := h
  intro i hi; simp at hi ⊢; grind
theorem InAt.lt {row : (Nat → Int) → Nat → LO} {H : Heap} {iv : Value} {j N : Nat} {f : Nat → Int} {V : List Nat} (hlt : ∀ i o, H.get i = some o → i < H.next) (h : InAt row H iv j N f V) : ∀ i ∈ V, i < H.next := by
  rcases h with ⟨_, rfl, _⟩ | ⟨_, x, rfl, _, hx⟩
  · intro i hi; cases hi
  · intro i hi; simp at hi; subst hi; exact hlt _ _ hx
theorem OutAt.lt {H : Heap} {ov : Value} {q : Nat} {fp fb : Nat → Int} {V : List Nat} (hlt : ∀ i o, H.get i = some o → i < H.next) (h : OutAt H ov q fp fb V) : ∀ i ∈ V, i < H.next := by
  rcases h with ⟨_, rfl, _⟩ | ⟨_, x, rfl, _, hx⟩
  · intro i hi; cases hi
  · intro i hi; simp at hi; subst hi; exact hlt _ _ hx
theorem PM.lt {H : Heap} {p : Nat} {s : Js} {O V : List Nat} (hlt : ∀ i o, H.get i = some o → i < H.next) (h : PM H p s O V) : ∀ i ∈ V, i < H.next := by
  obtain ⟨b, rg, iv, ov, VI, VO, h, rfl, rfl⟩ := h
  intro i hi
  simp only [List.mem_append, List.mem_cons, List.not_mem_nil, or_false] at hi
  rcases hi with (rfl | rfl) | hi | hi
  · exact hlt _ _ h.cells
  · exact hlt _ _ h.mem
  · exact h.inn.lt hlt i hi
  · exact h.out.lt hlt i hi
theorem RM.lt {H : Heap} {p : Nat} {s : Js} {O V : List Nat} (hlt : ∀ i o, H.get i = some o → i < H.next) (h : RM H p s O V) : ∀ i ∈ V, i < H.next := by
  obtain ⟨b, rg, iv, ov, VI, VO, h, rfl, rfl⟩ := h
  intro i hi
  simp only [List.mem_append, List.mem_cons, List.not_mem_nil, or_false] at hi
  rcases hi with (rfl | rfl | rfl) | hi | hi
  · exact hlt _ _ h.cells
  · exact hlt _ _ h.mem
  · exact hlt _ _ h.regs
  · exact h.inn.lt hlt i hi
  · exact h.out.lt hlt i hi
structure Two (H : Heap) (p r : Nat) (s t : Js) (O V O2 V2 : List Nat) : Prop where
  lock : H.lock = 0
  clean : Ly.Clean H
  P : PM H p s O V
  R : RM H r t O2 V2
  apart : Apart V V2
theorem Opened.two {H : Heap} {p r : Nat} {s : Js} {O V O2 V2 : List Nat} (h : Opened H p r s O V O2 V2) : Two H p r s s O V O2 V2 := ⟨h.lock, h.clean, h.P, h.R, h.apart⟩
theorem Nx.n {H H' : Heap} {O : List Nat} (h : Nx H H' O) : NxN H H' O 64 := ⟨h.lock, h.le, h.ge, h.clean, h.old⟩
theorem Two.stepP {H H1 : Heap} {p r m : Nat} {s s' t : Js} {O V O1 V1 O2 V2 : List Nat} (hlt : ∀ i o, H.get i = some o → i < H.next) (h : Two H p r s t O V O2 V2) (hN : NxN H H1 O m) (hM : PM H1 p s' O1 V1) (hV : ∀ i ∈ V1, i ∈ V ∨ H.next ≤ i) : Two H1 p r s' t O1 V1 O2 V2 :=
  ⟨hN.lock, hN.clean, hM, h.R.same fun i hi => hN.old i (h.R.lt hlt i hi) (fun hO => h.apart i (h.P.sub i hO) hi), fun i hi hi2 => by
    rcases hV i hi with h1 | h1
    · exact h.apart i h1 hi2
    · have := h.R.lt hlt i hi2; omega⟩
theorem Two.stepR {H H1 : Heap} {p r m : Nat} {s t t' : Js} {O V O1 V1 O2 V2 : List Nat} (hlt : ∀ i o, H.get i = some o → i < H.next) (h : Two H p r s t O V O2 V2) (hN : NxN H H1 O2 m) (hM : RM H1 r t' O1 V1) (hV : ∀ i ∈ V1, i ∈ V2 ∨ H.next ≤ i) : Two H1 p r s t' O V O1 V1 :=
  ⟨hN.lock, hN.clean, h.P.same fun i hi => hN.old i (h.P.lt hlt i hi) (fun hO => h.apart i hi (h.R.sub i hO)), hM, fun i hi hi2 => by
    rcases hV i hi2 with h1 | h1
    · exact h.apart i hi h1
    · have := h.P.lt hlt i hi; omega⟩
theorem Two.sameP {H : Heap} {p r : Nat} {s : Js} {O V O2 V2 : List Nat} (h : Two H p r s s O V O2 V2) (hb : H.next + 16 < big) (hN : s.N ≤ 9223372036854775807) (hq : s.q ≤ 9223372036854775806) :
    LCalls Try.prog 15 [ptr p, ptr r] H (fun u K => u = .bool true ∧ ∃ O V, PM K p s O V) := by
  refine LCalls.ltn fun hlt hsm => ?_
  refine (same_calls h.P h.R h.apart h.lock h.clean hb hN hq).mono ?_
  rintro u K' ⟨h1, K, hw, ⟨O, V, hP⟩, _, hL⟩
  have hltK : ∀ i o, K.get i = some o → i < K.next := fun i o ho => by
    obtain ⟨x, h3, _⟩ := hw.obj i o ho
    rw [hw.next]; exact hlt i x h3
  exact ⟨h1, O, V, hP.same fun i hi => hL.old i (hP.lt hltK i hi)⟩
end Go.Proofs.Ytpggoincnebfnaa
namespace Go.Ly
open Go.RowKit
def opVal (E : Env) (S : St) : Option Value :=
  match S.top.k with
  | .ops all (o :: l) :: k =>
    bif guardB all S.top.t S.top.fn.ntmps o && dstOk S.top.fn.ntmps o.dst then
      (match evOp E S.H S.top.t o with
      | .val v => some v
      | _ => none)
    else none
  | _ => none
theorem MWp.val {P : Program} {E : Env} {Q : Value → Heap → Prop} (hE : E.Ok P) {S : St} {v : Value} (h : opVal E S = some v) (hs : MWp P (behind S v S.H) Q) : MWp P S Q := by
  unfold opVal at h
  split at h
  · rename_i all o l k hk
    cases hc : (guardB all S.top.t S.top.fn.ntmps o && dstOk S.top.fn.ntmps o.dst) with
    | false => rw [hc] at h; cases h
    | true =>
      rw [hc] at h; simp only [cond_true] at h
      simp only [Bool.and_eq_true] at hc
      intro ρ w g gs R hr hf hfs hR
      unfold stateWp
      rw [hf.k, hk]
      show wpList P all _ (o :: l) g.a w
      unfold wpList
      rw [guardB_wanted P hf hc.1, if_pos rfl]
      left
      have hgood := evOp_good hE hr hf.t o
      cases he : evOp E S.H S.top.t o with
      | val u =>
        rw [he] at h hgood
        simp only [Option.some.injEq] at h
        subst h
        obtain ⟨v', hv, hrun⟩ := hgood
        unfold Oper.wp; rw [hrun]
        simp only [Oper.upon]
        refine putFr_sound (S := S) (Q := Q) (v := u) (H' := S.H) (k := .ops all l :: k) (dst := o.dst) ?_ hf hfs (Ren.le_refl ρ) (Fresh.refl ρ w) hr (Keep.refl ρ w) hv hR
        unfold putFr
        rw [hc.2]
        unfold behind at hs
        rw [hk] at hs
        exact hs
      | _ => rw [he] at h; cases h
  · cases h
end Go.Ly
namespace Go.Proofs.Ytpggoincnebfnaa
open Go Go.Ly Go.RowKit
def nil13 (H : Heap) (args : List Value) : ER := match args with | [.pointer none] => .val (.int .i64 14) | _ => .no
def nil16 (H : Heap) (args : List Value) : ER := match args with | [.pointer none, .int .i64 1] => .val (cntV 0 14) | _ => .no
theorem n13 (H : Heap) : (Ly.run env.bare 60 [] (Ly.start Try.f13 [.pointer none] H)).fin? = some ([], .int .i64 14, H) := by kernel_rfl
theorem n16 (H : Heap) : (Ly.run env.bare 60 [] (Ly.start Try.f16 [.pointer none, .int .i64 1] H)).fin? = some ([], cntV 0 14, H) := by kernel_rfl
theorem gN13 : env.bare.fn.get 13 = some Try.f13 := by kernel_rfl
theorem gN16 : env.bare.fn.get 16 = some Try.f16 := by kernel_rfl
theorem nil13_good (H : Heap) (args : List Value) : HGood Try.prog 13 args H (nil13 H args) := by
  unfold nil13
  split
  · exact LCalls_of (Q := fun u K => u = .int .i64 14 ∧ K = H) (Env.bare_ok envOk) gN13 (by kernel_rfl) (MWp.fin (Env.bare_ok envOk) 60 _ (n13 H) trivial ⟨rfl, rfl⟩)
  · exact trivial
theorem nil16_good (H : Heap) (args : List Value) : HGood Try.prog 16 args H (nil16 H args) := by
  unfold nil16
  split
  · exact LCalls_of (Q := fun u K => u = cntV 0 14 ∧ K = H) (Env.bare_ok envOk) gN16 (by kernel_rfl) (MWp.fin (Env.bare_ok envOk) 60 _ (n16 H) trivial ⟨rfl, rfl⟩)
  · exact trivial
def ctxN : Ctx := ctxH.withH 13 nil13 |>.withH 16 nil16
theorem ctxN_ok : ctxN.Ok Try.prog := (ctxH_ok.withH nil13_good).withH nil16_good
theorem run_halted {s : Js} (hs : s.Ok) (hh : s.m.halt = true) (n : Int) : ∃ k, ((k == (13 : Int)) == decide (0 < n)) = true ∧
    (∀ H p O V, PM H p s O V → H.lock = 0 → Ly.Clean H → H.next + 64 < big → LCalls Try.prog 16 [ptr p, .int .i64 n] H (fun u H' => u = cntV 0 k ∧ MN PM H p s O V 64 H')) := by
  by_cases h0 : 0 < n
  · refine ⟨13, by simp [h0], fun H p O V h hl hc hb => ?_⟩
    refine LCalls_of ctxH_ok gH16 (by kernel_rfl) (MWp.halted ctxH_ok [0, 1, 6, 13] 60 _ (run16_1 p n H) (by simp [h0]) ?_)
    refine MWp.call envOk (call16 p H.next n 0 H) ((step_halt hh).1 H p O V h hl hc hb) ?_
    rintro v H' ⟨rfl, hN, O1, V1, hM, hO, hV⟩
    exact MWp.fin ctxH_ok 60 _ (run16_k p H.next n 0 13 H H') (by simp) ⟨rfl, MN.of 0 hN hO hV hM⟩
  · refine ⟨0, by simp; omega, fun H p O V h hl hc hb => ?_⟩
    exact LCalls_of ctxH_ok gH16 (by kernel_rfl) (MWp.fin ctxH_ok 60 _ (run16_0 p n H) (by simp; omega) ⟨rfl, MN.refl 64 hl hc h⟩)
theorem load_halt {H : Heap} {p b rg : Nat} {m : Mc} {iv ov : Value} (h : H.get p = some (.cells (cellsPb b rg m iv ov) 60)) : evLoad env H 4 (.pointer (some ⟨p, 16, none⟩)) = .val (.bool m.halt) := by
  unfold evLoad
  simp only [h]
  kernel_rfl
end Go.Proofs.Ytpggoincnebfnaa
namespace Go.Proofs.Ytpggoincnebfnaa
open Go Go.Ly Go.RowKit
def sv0 : Sv := ⟨0, 0, 0, 0, 0, 0, 0, 0, false, false, false, false, false, 0, 0, false⟩
def GA (L : List Value) (c : Nat) : Nat → Nat → Value := lstG 2 c L
def GB (fa fb : Nat → Int) (q : Nat) (L : List Value) (c : Nat) : Nat → Nat → Value := fun i j => joinG (0 + (q + 1)) (fun i j => bbG fa fb (0 + (0 + i)) j) (lstG 2 c L) (0 + i) j
def gm (G : Nat → Nat → Value) (c : Nat) : Nat → Int := memF (atOf G) (byOf G) c
def gs (g : Nat → Int) : Nat → Int := fun e => g (0 + e)
theorem gs_eq (g : Nat → Int) : gs g = g := by funext e; unfold gs; rw [Nat.zero_add]
def tLi (n : Nat) : Bool × Bool := (decide (((n + 1 : Nat) : Int) ≤ 300) == true, true)
def tMx (n : Nat) : Bool × Bool := (decide ((256 : Int) < ((n + 1 : Nat) : Int)), false)
def tOk (G : Nat → Nat → Value) (c : Nat) : Bool × Bool := (okM c G, true)
def tOkB (G : Nat → Nat → Value) (q c : Nat) : Bool × Bool := (Nat.ble (0 + (q + c)) (q + c) && (true && okM (q + c) G), true)
def tR1 (k : Nat) : Bool × Bool := (Nat.ble (0 + (k + 1)) (k + 1) && (true && Nat.ble (0 + (k + 1)) 4294967296), true)
def tR2 (k c : Nat) : Bool × Bool := (true && (Nat.ble (0 + (0 + (k + 1))) (k + 1) && ((Nat.beq 2 2 && (Nat.beq 33 33 && (Nat.beq (k + 1) (0 + (k + 1)) && true))) && (Nat.ble 1 (0 + (k + 1)) && Nat.ble (0 + (k + 1) + c) 4294967296))), true)
theorem tLi_ok {n : Nat} (h : n + 1 ≤ 300) : trusted [tLi n] := ⟨by show (decide (((n + 1 : Nat) : Int) ≤ 300) == true) = true; rw [decide_eq_true (by omega)]; rfl, trivial⟩
theorem tMx_ok {n : Nat} (h : n + 1 ≤ 256) : trusted [tMx n] := ⟨by show decide ((256 : Int) < ((n + 1 : Nat) : Int)) = false; exact decide_eq_false (by omega), trivial⟩
theorem tOk_ok {G : Nat → Nat → Value} {c : Nat} (h : Gok c G) (hc : c ≤ 1000) : trusted [tOk G c] := ⟨h.ok hc, trivial⟩
theorem tOkB_ok {G : Nat → Nat → Value} {q c : Nat} (h : Gok (q + c) G) (hc : q + c ≤ 1000) : trusted [tOkB G q c] := by
  refine ⟨?_, trivial⟩
  show (Nat.ble (0 + (q + c)) (q + c) && (true && okM (q + c) G)) = true
  rw [h.ok hc, Nat.zero_add, Bool.and_eq_true, Nat.ble_eq]
  exact ⟨Nat.le_refl _, rfl⟩
theorem tR1_ok {k : Nat} (h : k ≤ 1000) : trusted [tR1 k] := by
  refine ⟨?_, trivial⟩
  show (Nat.ble (0 + (k + 1)) (k + 1) && (true && Nat.ble (0 + (k + 1)) 4294967296)) = true
  rw [Nat.zero_add, Bool.and_eq_true, Bool.and_eq_true, Nat.ble_eq, Nat.ble_eq]
  exact ⟨Nat.le_refl _, rfl, by omega⟩
theorem tR2_ok {k c : Nat} (h : k + c ≤ 1000) : trusted [tR2 k c] := by
  refine ⟨?_, trivial⟩
  show (true && (Nat.ble (0 + (0 + (k + 1))) (k + 1) && ((Nat.beq 2 2 && (Nat.beq 33 33 && (Nat.beq (k + 1) (0 + (k + 1)) && true))) && (Nat.ble 1 (0 + (k + 1)) && Nat.ble (0 + (k + 1) + c) 4294967296)))) = true
  have e1 : Nat.ble (k + 1) (k + 1) = true := by rw [Nat.ble_eq]; exact Nat.le_refl _
  have e2 : Nat.ble 1 (k + 1) = true := by rw [Nat.ble_eq]; omega
  have e3 : Nat.ble (k + 1 + c) 4294967296 = true := by rw [Nat.ble_eq]; omega
  have e4 : Nat.beq (k + 1) (k + 1) = true := Nat.beq_refl _
  simp only [Nat.zero_add, e1, e2, e3, e4]; rfl
theorem tr_cons {x : Bool × Bool} {l : List (Bool × Bool)} (h : trusted [x]) (k : trusted l) : trusted (x :: l) := ⟨h.1, k⟩
theorem gokB {fa fb : Nat → Int} {q c : Nat} {L : List Value} (h : ∀ e, e < q + 1 → B16 (fa e) ∧ B8 (fb e)) (hL : Gok c (lstG 2 c L)) : Gok (0 + (q + 1) + c) (GB fa fb q L c) := by
  have h1 : Gok (0 + (q + 1)) (fun i j => bbG fa fb (0 + (0 + i)) j) := by
    rw [Nat.zero_add]; exact ((Gok.bb h).shift).shift
  exact (h1.join hL).shift
end Go.Proofs.Ytpggoincnebfnaa
namespace Go.Proofs.Ytpggoincnebfnaa
open Go Go.Ly Go.RowKit
def tLn (k : Nat) : Bool × Bool := ((!(decide (((k + 1 : Nat) : Int) ≤ 300))) == false, true)
set_option maxRecDepth 100000 in
theorem tLn_ok {k : Nat} (h : k + 1 ≤ 300) : trusted [tLn k] := by
  have e2 : (tLn k).1 = true := by unfold tLn; simp only []; rw [decide_eq_true (by omega)]; rfl
  exact ⟨e2, trivial⟩
set_option maxRecDepth 100000 in
theorem tLn_no {k : Nat} (h : ¬ k + 1 ≤ 300) : trusted [((tLn k).1, false)] := ⟨by
  have e : (tLn k).1 = ((!(decide (((k + 1 : Nat) : Int) ≤ 300))) == false) := by unfold tLn; rfl
  rw [e, decide_eq_false (by omega)]; rfl, trivial⟩
end Go.Proofs.Ytpggoincnebfnaa
namespace Go.Proofs.Ytpggoincnebfnaa
open Go Go.Ly Go.RowKit
def rd7 : St := Ly.start Try.f7 [] H0
set_option maxRecDepth 100000 in
def k7 : List KI := ((Ly.run ctxN 9000 [] (Ly.start Try.f7 [svV sv0 nilS nilS, .int .i64 0] (mkH [some (ints .u8 (fun _ => 0) 0), some (bytes2 (fun _ => 0) (fun _ => 0) 0)]))).st rd7).top.k
def v7 (p r : Nat) (st : Int) : List Value := slots 108 [(1, .int .i64 st), (8, ptr p), (9, ptr r), (74, ptr p)]
def l7 (s : Sv) : List Value := [.int .u16 s.pc, .int .u8 118]
def tMe (n : Nat) : Bool × Bool := (decide ((256 : Int) < ((n + 1 : Nat) : Int)) == false, true)
def tTh (st : Int) : Bool × Bool := (decide ((1000 : Int) < st), false)
theorem tMe_ok {n : Nat} (h : n + 1 ≤ 256) : trusted [tMe n] := ⟨by show (decide ((256 : Int) < ((n + 1 : Nat) : Int)) == false) = true; rw [decide_eq_false (by omega)]; rfl, trivial⟩
theorem tMe_no {n : Nat} (h : ¬ n + 1 ≤ 256) : trusted [((tMe n).1, false)] := ⟨by show (decide ((256 : Int) < ((n + 1 : Nat) : Int)) == false) = false; rw [decide_eq_true (by omega)]; rfl, trivial⟩
theorem tTh_ok {st : Int} (h : st ≤ 1000) : trusted [tTh st] := ⟨decide_eq_false (by omega), trivial⟩
theorem tTh_no {st : Int} (h : 1000 < st) : trusted [((tTh st).1, true)] := ⟨decide_eq_true h, trivial⟩
theorem no_Li7 {n : Nat} (h : ¬ n + 1 ≤ 300) : trusted [((tLi n).1, false)] := ⟨by show (decide (((n + 1 : Nat) : Int) ≤ 300) == true) = false; rw [decide_eq_false (by omega)]; rfl, trivial⟩
theorem gL7 : ctxN.fn.get 7 = some Try.f7 := by kernel_rfl
theorem gok7 {s : Sv} (hp : B16 s.pc) : Gok 1 (lstG 2 1 (l7 s)) := Gok.cons hp (by unfold B8; omega) Gok.nil
theorem hlt7A (s : Sv) : gm (GA (l7 s) 1) 1 (ix s.pc) = 118 := by
  show upd _ (ix s.pc) 118 (ix s.pc) = 118
  unfold upd; rw [Nat.beq_refl]; rfl
theorem hlt7B (s : Sv) (fa fb : Nat → Int) (k : Nat) : gm (GB fa fb k (l7 s) 1) (0 + (k + 1) + 1) (ix s.pc) = 118 := by
  have e0 : ∀ j, GB fa fb k (l7 s) 1 (0 + (k + 1)) j = lstG 2 1 (l7 s) 0 j := fun j => by
    simp only [GB, joinG, vif_eq, Nat.zero_add]
    have : Nat.blt (k + 1) (k + 1) = false := by
      cases h : Nat.blt (k + 1) (k + 1) with
      | false => rfl
      | true => rw [Nat.blt_eq] at h; omega
    rw [this, Nat.sub_self]; rfl
  show upd _ (ix (intV (GB fa fb k (l7 s) 1 (0 + (k + 1)) 0))) (intV (GB fa fb k (l7 s) 1 (0 + (k + 1)) 1)) (ix s.pc) = 118
  rw [e0, e0]
  show upd _ (ix s.pc) 118 (ix s.pc) = 118
  unfold upd; rw [Nat.beq_refl]; rfl
def Tail7 : Prop := ∀ (H : Heap) (p r b : Nat) (s : Js) (O V O2 V2 : List Nat) (st : Int), Opened H p r s O V O2 V2 → s.Ok → s.q = 0 → s.N ≤ 1000 → H.next ≤ 1000 → s.m.halt = false → s.g (ix s.m.pc) = 118 → MWp Try.prog (atSt Try.f7 k7 (some 46) b (v7 p r st) H) (fun u _ => u = .bool true)
set_option maxRecDepth 100000 in
theorem e7_NN (s : Sv) (n k : Nat) (f fa fb : Nat → Int) (st : Int) : haltH [1, 8, 9, 74] [12, 11, 17, 16, 15] 18 rd7 (Ly.run ctxN 9000 [(13, false), (8, true), (22, true)] (Ly.start Try.f7 [svV s nilS nilS, .int .i64 st] (mkH [some (ints .u8 f n), some (bytes2 fa fb k)]))) =
  (true, [tTh st, tOk (GA (l7 s) 1) 1, tOk (GA (l7 s) 1) 1], true, (Try.f7, k7, some 46, 2), v7 12 17 st, (true, true, true), [some (.cells (cellsPb 11 0 (mOf s) nilV nilV) 60), some (memL (gs (gm (GA (l7 s) 1) 1))), some (.cells (cellsRb 16 15 (mOf s) nilV nilV) 56), some (memL (gm (GA (l7 s) 1) 1)), some (regsR (mOf s))]) := by kernel_rfl
theorem g7_NN (ht : Tail7) (s : Sv) (n k : Nat) (f fa fb : Nat → Int) (st : Int) (hs : s.Ok) (hst : st ≤ 1000) : LCalls Try.prog 7 [svV s nilS nilS, .int .i64 st] (mkH [some (ints .u8 f n), some (bytes2 fa fb k)]) (fun u _ => u = .bool true) := by
  have hG : Gok 1 (GA (l7 s) 1) := gok7 hs.2.2
  refine LCalls_of ctxN_ok gL7 (by kernel_rfl) (MWp.haltH ctxN_ok _ _ _ _ (e7_NN s n k f fa fb st) (tr_cons (tTh_ok (by omega)) (tr_cons (tOk_ok hG (by omega)) (tr_cons (tOk_ok hG (by omega)) trivial))) ?_)
  intro H hnx hl hc hos
  simp only [List.map_cons, List.map_nil, List.cons.injEq, and_true] at hos
  obtain ⟨h1, h2, h3, h4, h5⟩ := hos
  rw [gs_eq] at h2
  exact ht H 12 17 2 (jOf s (gm (GA (l7 s) 1) 1) 0 f) _ _ _ _ st (opened_N hl hc h1 h2 h3 h4 h5 (by decide)) (jOf_ok hs hG.mem (fun e he => by omega)) rfl (by show 0 ≤ 1000; omega) (by omega) rfl (hlt7A s)
set_option maxRecDepth 100000 in
theorem e7_NE (s : Sv) (n k : Nat) (f fa fb : Nat → Int) (st : Int) : haltH [1, 8, 9, 74] [12, 11, 17, 16, 15] 18 rd7 (Ly.run ctxN 9000 [(13, false), (8, true), (22, true)] (Ly.start Try.f7 [svV s nilS (sls 1 0), .int .i64 st] (mkH [some (ints .u8 f n), some (bytes2 fa fb 0)]))) =
  (true, [tTh st, tOk (GA (l7 s) 1) 1, tOk (GA (l7 s) 1) 1], true, (Try.f7, k7, some 46, 2), v7 12 17 st, (true, true, true), [some (.cells (cellsPb 11 0 (mOf s) nilV nilV) 60), some (memL (gs (gm (GA (l7 s) 1) 1))), some (.cells (cellsRb 16 15 (mOf s) nilV nilV) 56), some (memL (gm (GA (l7 s) 1) 1)), some (regsR (mOf s))]) := by kernel_rfl
theorem g7_NE (ht : Tail7) (s : Sv) (n k : Nat) (f fa fb : Nat → Int) (st : Int) (hs : s.Ok) (hst : st ≤ 1000) : LCalls Try.prog 7 [svV s nilS (sls 1 0), .int .i64 st] (mkH [some (ints .u8 f n), some (bytes2 fa fb 0)]) (fun u _ => u = .bool true) := by
  have hG : Gok 1 (GA (l7 s) 1) := gok7 hs.2.2
  refine LCalls_of ctxN_ok gL7 (by kernel_rfl) (MWp.haltH ctxN_ok _ _ _ _ (e7_NE s n k f fa fb st) (tr_cons (tTh_ok (by omega)) (tr_cons (tOk_ok hG (by omega)) (tr_cons (tOk_ok hG (by omega)) trivial))) ?_)
  intro H hnx hl hc hos
  simp only [List.map_cons, List.map_nil, List.cons.injEq, and_true] at hos
  obtain ⟨h1, h2, h3, h4, h5⟩ := hos
  rw [gs_eq] at h2
  exact ht H 12 17 2 (jOf s (gm (GA (l7 s) 1) 1) 0 f) _ _ _ _ st (opened_N hl hc h1 h2 h3 h4 h5 (by decide)) (jOf_ok hs hG.mem (fun e he => by omega)) rfl (by show 0 ≤ 1000; omega) (by omega) rfl (hlt7A s)
set_option maxRecDepth 100000 in
theorem e7_NR (s : Sv) (n k : Nat) (f fa fb : Nat → Int) (st : Int) : haltH [1, 8, 9, 74] [13, 12, 18, 17, 16] 19 rd7 (Ly.run ctxN 9000 [(5, true), (7, false), (1, true), (2, true), (2, true), (22, true)] (Ly.start Try.f7 [svV s nilS (sls 1 (k + 1)), .int .i64 st] (mkH [some (ints .u8 f n), some (bytes2 fa fb (k + 1))]))) =
  (true, [tLn k, tTh st, tR1 k, tR2 k 1, tOkB (GB fa fb k (l7 s) 1) (0 + (k + 1)) 1, tOkB (GB fa fb k (l7 s) 1) (0 + (k + 1)) 1], true, (Try.f7, k7, some 46, 2), v7 13 18 st, (true, true, true), [some (.cells (cellsPb 12 0 (mOf s) nilV nilV) 60), some (memL (gs (gm (GB fa fb k (l7 s) 1) (0 + (k + 1) + 1)))), some (.cells (cellsRb 17 16 (mOf s) nilV nilV) 56), some (memL (gm (GB fa fb k (l7 s) 1) (0 + (k + 1) + 1))), some (regsR (mOf s))]) := by kernel_rfl
theorem g7_NR (ht : Tail7) (s : Sv) (n k : Nat) (f fa fb : Nat → Int) (st : Int) (hs : s.Ok) (hk : k + 1 ≤ 300) (hb : ∀ e, e < k + 1 → B16 (fa e) ∧ B8 (fb e)) (hst : st ≤ 1000) : LCalls Try.prog 7 [svV s nilS (sls 1 (k + 1)), .int .i64 st] (mkH [some (ints .u8 f n), some (bytes2 fa fb (k + 1))]) (fun u _ => u = .bool true) := by
  have hG : Gok (0 + (k + 1) + 1) (GB fa fb k (l7 s) 1) := gokB hb (gok7 hs.2.2)
  refine LCalls_of ctxN_ok gL7 (by kernel_rfl) (MWp.haltH ctxN_ok _ _ _ _ (e7_NR s n k f fa fb st) (tr_cons (tLn_ok (by omega)) (tr_cons (tTh_ok (by omega)) (tr_cons (tR1_ok (by omega)) (tr_cons (tR2_ok (by omega)) (tr_cons (tOkB_ok hG (by omega)) (tr_cons (tOkB_ok hG (by omega)) trivial)))))) ?_)
  intro H hnx hl hc hos
  simp only [List.map_cons, List.map_nil, List.cons.injEq, and_true] at hos
  obtain ⟨h1, h2, h3, h4, h5⟩ := hos
  rw [gs_eq] at h2
  exact ht H 13 18 2 (jOf s (gm (GB fa fb k (l7 s) 1) (0 + (k + 1) + 1)) 0 f) _ _ _ _ st (opened_N hl hc h1 h2 h3 h4 h5 (by decide)) (jOf_ok hs hG.mem (fun e he => by omega)) rfl (by show 0 ≤ 1000; omega) (by omega) rfl (hlt7B s fa fb k)
set_option maxRecDepth 100000 in
theorem e7_EN (s : Sv) (n k : Nat) (f fa fb : Nat → Int) (st : Int) : haltH [1, 8, 9, 74] [13, 12, 18, 17, 16] 19 rd7 (Ly.run ctxN 9000 [(13, false), (8, true), (25, true)] (Ly.start Try.f7 [svV s (sl 0 0) nilS, .int .i64 st] (mkH [some (ints .u8 f 0), some (bytes2 fa fb k)]))) =
  (true, [tTh st, tOk (GA (l7 s) 1) 1, tOk (GA (l7 s) 1) 1], true, (Try.f7, k7, some 46, 2), v7 13 18 st, (true, true, true), [some (.cells (cellsPb 12 0 (mOf s) (.slice (some ⟨10, 0, none⟩) 0 0) nilV) 60), some (memL (gs (gm (GA (l7 s) 1) 1))), some (.cells (cellsRb 17 16 (mOf s) (sl 0 0) nilV) 56), some (memL (gm (GA (l7 s) 1) 1)), some (regsR (mOf s))]) := by kernel_rfl
theorem g7_EN (ht : Tail7) (s : Sv) (n k : Nat) (f fa fb : Nat → Int) (st : Int) (hs : s.Ok) (hst : st ≤ 1000) : LCalls Try.prog 7 [svV s (sl 0 0) nilS, .int .i64 st] (mkH [some (ints .u8 f 0), some (bytes2 fa fb k)]) (fun u _ => u = .bool true) := by
  have hG : Gok 1 (GA (l7 s) 1) := gok7 hs.2.2
  refine LCalls_of ctxN_ok gL7 (by kernel_rfl) (MWp.haltH ctxN_ok _ _ _ _ (e7_EN s n k f fa fb st) (tr_cons (tTh_ok (by omega)) (tr_cons (tOk_ok hG (by omega)) (tr_cons (tOk_ok hG (by omega)) trivial))) ?_)
  intro H hnx hl hc hos
  simp only [List.map_cons, List.map_nil, List.cons.injEq, and_true] at hos
  obtain ⟨h1, h2, h3, h4, h5⟩ := hos
  rw [gs_eq] at h2
  exact ht H 13 18 2 (jOf s (gm (GA (l7 s) 1) 1) 0 f) _ _ _ _ st (opened_E hl hc h1 h2 h3 h4 h5 (by decide)) (jOf_ok hs hG.mem (fun e he => by omega)) rfl (by show 0 ≤ 1000; omega) (by omega) rfl (hlt7A s)
set_option maxRecDepth 100000 in
theorem e7_EE (s : Sv) (n k : Nat) (f fa fb : Nat → Int) (st : Int) : haltH [1, 8, 9, 74] [13, 12, 18, 17, 16] 19 rd7 (Ly.run ctxN 9000 [(13, false), (8, true), (25, true)] (Ly.start Try.f7 [svV s (sl 0 0) (sls 1 0), .int .i64 st] (mkH [some (ints .u8 f 0), some (bytes2 fa fb 0)]))) =
  (true, [tTh st, tOk (GA (l7 s) 1) 1, tOk (GA (l7 s) 1) 1], true, (Try.f7, k7, some 46, 2), v7 13 18 st, (true, true, true), [some (.cells (cellsPb 12 0 (mOf s) (.slice (some ⟨10, 0, none⟩) 0 0) nilV) 60), some (memL (gs (gm (GA (l7 s) 1) 1))), some (.cells (cellsRb 17 16 (mOf s) (sl 0 0) nilV) 56), some (memL (gm (GA (l7 s) 1) 1)), some (regsR (mOf s))]) := by kernel_rfl
theorem g7_EE (ht : Tail7) (s : Sv) (n k : Nat) (f fa fb : Nat → Int) (st : Int) (hs : s.Ok) (hst : st ≤ 1000) : LCalls Try.prog 7 [svV s (sl 0 0) (sls 1 0), .int .i64 st] (mkH [some (ints .u8 f 0), some (bytes2 fa fb 0)]) (fun u _ => u = .bool true) := by
  have hG : Gok 1 (GA (l7 s) 1) := gok7 hs.2.2
  refine LCalls_of ctxN_ok gL7 (by kernel_rfl) (MWp.haltH ctxN_ok _ _ _ _ (e7_EE s n k f fa fb st) (tr_cons (tTh_ok (by omega)) (tr_cons (tOk_ok hG (by omega)) (tr_cons (tOk_ok hG (by omega)) trivial))) ?_)
  intro H hnx hl hc hos
  simp only [List.map_cons, List.map_nil, List.cons.injEq, and_true] at hos
  obtain ⟨h1, h2, h3, h4, h5⟩ := hos
  rw [gs_eq] at h2
  exact ht H 13 18 2 (jOf s (gm (GA (l7 s) 1) 1) 0 f) _ _ _ _ st (opened_E hl hc h1 h2 h3 h4 h5 (by decide)) (jOf_ok hs hG.mem (fun e he => by omega)) rfl (by show 0 ≤ 1000; omega) (by omega) rfl (hlt7A s)
set_option maxRecDepth 100000 in
theorem e7_ER (s : Sv) (n k : Nat) (f fa fb : Nat → Int) (st : Int) : haltH [1, 8, 9, 74] [14, 13, 19, 18, 17] 20 rd7 (Ly.run ctxN 9000 [(5, true), (7, false), (1, true), (2, true), (2, true), (25, true)] (Ly.start Try.f7 [svV s (sl 0 0) (sls 1 (k + 1)), .int .i64 st] (mkH [some (ints .u8 f 0), some (bytes2 fa fb (k + 1))]))) =
  (true, [tLn k, tTh st, tR1 k, tR2 k 1, tOkB (GB fa fb k (l7 s) 1) (0 + (k + 1)) 1, tOkB (GB fa fb k (l7 s) 1) (0 + (k + 1)) 1], true, (Try.f7, k7, some 46, 2), v7 14 19 st, (true, true, true), [some (.cells (cellsPb 13 0 (mOf s) (.slice (some ⟨11, 0, none⟩) 0 0) nilV) 60), some (memL (gs (gm (GB fa fb k (l7 s) 1) (0 + (k + 1) + 1)))), some (.cells (cellsRb 18 17 (mOf s) (sl 0 0) nilV) 56), some (memL (gm (GB fa fb k (l7 s) 1) (0 + (k + 1) + 1))), some (regsR (mOf s))]) := by kernel_rfl
theorem g7_ER (ht : Tail7) (s : Sv) (n k : Nat) (f fa fb : Nat → Int) (st : Int) (hs : s.Ok) (hk : k + 1 ≤ 300) (hb : ∀ e, e < k + 1 → B16 (fa e) ∧ B8 (fb e)) (hst : st ≤ 1000) : LCalls Try.prog 7 [svV s (sl 0 0) (sls 1 (k + 1)), .int .i64 st] (mkH [some (ints .u8 f 0), some (bytes2 fa fb (k + 1))]) (fun u _ => u = .bool true) := by
  have hG : Gok (0 + (k + 1) + 1) (GB fa fb k (l7 s) 1) := gokB hb (gok7 hs.2.2)
  refine LCalls_of ctxN_ok gL7 (by kernel_rfl) (MWp.haltH ctxN_ok _ _ _ _ (e7_ER s n k f fa fb st) (tr_cons (tLn_ok (by omega)) (tr_cons (tTh_ok (by omega)) (tr_cons (tR1_ok (by omega)) (tr_cons (tR2_ok (by omega)) (tr_cons (tOkB_ok hG (by omega)) (tr_cons (tOkB_ok hG (by omega)) trivial)))))) ?_)
  intro H hnx hl hc hos
  simp only [List.map_cons, List.map_nil, List.cons.injEq, and_true] at hos
  obtain ⟨h1, h2, h3, h4, h5⟩ := hos
  rw [gs_eq] at h2
  exact ht H 14 19 2 (jOf s (gm (GB fa fb k (l7 s) 1) (0 + (k + 1) + 1)) 0 f) _ _ _ _ st (opened_E hl hc h1 h2 h3 h4 h5 (by decide)) (jOf_ok hs hG.mem (fun e he => by omega)) rfl (by show 0 ≤ 1000; omega) (by omega) rfl (hlt7B s fa fb k)
set_option maxRecDepth 100000 in
theorem e7_RN (s : Sv) (n k : Nat) (f fa fb : Nat → Int) (st : Int) : haltH [1, 8, 9, 74] [14, 13, 19, 18, 17, 11, 0] 20 rd7 (Ly.run ctxN 9000 [(0, true), (9, true), (2, false), (8, true), (11, false), (1, true), (11, true)] (Ly.start Try.f7 [svV s (sl 0 (n + 1)) nilS, .int .i64 st] (mkH [some (ints .u8 f (n + 1)), some (bytes2 fa fb k)]))) =
  (true, [tLi n, tMe n, tTh st, tOk (GA (l7 s) 1) 1, tMx n, tR1 n, tOk (GA (l7 s) 1) 1], true, (Try.f7, k7, some 46, 2), v7 14 19 st, (true, true, true), [some (.cells (cellsPb 13 0 (mOf s) (inV 11 0 (0 + (n + 1))) nilV) 60), some (memL (gs (gm (GA (l7 s) 1) 1))), some (.cells (cellsRb 18 17 (mOf s) (inV 0 0 (n + 1)) nilV) 56), some (memL (gm (GA (l7 s) 1) 1)), some (regsR (mOf s)), some (rowP (fun e => f (0 + e)) (n + 1)), some (rowR f (n + 1))]) := by kernel_rfl
theorem g7_RN (ht : Tail7) (s : Sv) (n k : Nat) (f fa fb : Nat → Int) (st : Int) (hs : s.Ok) (hn : n + 1 ≤ 256) (hf : ∀ e, e < n + 1 → B8 (f e)) (hst : st ≤ 1000) : LCalls Try.prog 7 [svV s (sl 0 (n + 1)) nilS, .int .i64 st] (mkH [some (ints .u8 f (n + 1)), some (bytes2 fa fb k)]) (fun u _ => u = .bool true) := by
  have hG : Gok 1 (GA (l7 s) 1) := gok7 hs.2.2
  refine LCalls_of ctxN_ok gL7 (by kernel_rfl) (MWp.haltH ctxN_ok _ _ _ _ (e7_RN s n k f fa fb st) (tr_cons (tLi_ok (by omega)) (tr_cons (tMe_ok (by omega)) (tr_cons (tTh_ok (by omega)) (tr_cons (tOk_ok hG (by omega)) (tr_cons (tMx_ok hn) (tr_cons (tR1_ok (by omega)) (tr_cons (tOk_ok hG (by omega)) trivial))))))) ?_)
  intro H hnx hl hc hos
  simp only [List.map_cons, List.map_nil, List.cons.injEq, and_true] at hos
  obtain ⟨h1, h2, h3, h4, h5, h6, h7⟩ := hos
  rw [gs_eq] at h2
  have ez : (fun e => f (0 + e)) = f := by funext e; rw [Nat.zero_add]
  rw [ez] at h6
  rw [Nat.zero_add] at h1
  exact ht H 14 19 2 (jOf s (gm (GA (l7 s) 1) 1) (n + 1) f) _ _ _ _ st (opened_R hl hc h1 h2 h3 h4 h5 h6 h7 (by decide)) (jOf_ok hs hG.mem hf) rfl (by show (n + 1) ≤ 1000; omega) (by omega) rfl (hlt7A s)
set_option maxRecDepth 100000 in
theorem e7_RE (s : Sv) (n k : Nat) (f fa fb : Nat → Int) (st : Int) : haltH [1, 8, 9, 74] [14, 13, 19, 18, 17, 11, 0] 20 rd7 (Ly.run ctxN 9000 [(0, true), (9, true), (2, false), (8, true), (11, false), (1, true), (11, true)] (Ly.start Try.f7 [svV s (sl 0 (n + 1)) (sls 1 0), .int .i64 st] (mkH [some (ints .u8 f (n + 1)), some (bytes2 fa fb 0)]))) =
  (true, [tLi n, tMe n, tTh st, tOk (GA (l7 s) 1) 1, tMx n, tR1 n, tOk (GA (l7 s) 1) 1], true, (Try.f7, k7, some 46, 2), v7 14 19 st, (true, true, true), [some (.cells (cellsPb 13 0 (mOf s) (inV 11 0 (0 + (n + 1))) nilV) 60), some (memL (gs (gm (GA (l7 s) 1) 1))), some (.cells (cellsRb 18 17 (mOf s) (inV 0 0 (n + 1)) nilV) 56), some (memL (gm (GA (l7 s) 1) 1)), some (regsR (mOf s)), some (rowP (fun e => f (0 + e)) (n + 1)), some (rowR f (n + 1))]) := by kernel_rfl
theorem g7_RE (ht : Tail7) (s : Sv) (n k : Nat) (f fa fb : Nat → Int) (st : Int) (hs : s.Ok) (hn : n + 1 ≤ 256) (hf : ∀ e, e < n + 1 → B8 (f e)) (hst : st ≤ 1000) : LCalls Try.prog 7 [svV s (sl 0 (n + 1)) (sls 1 0), .int .i64 st] (mkH [some (ints .u8 f (n + 1)), some (bytes2 fa fb 0)]) (fun u _ => u = .bool true) := by
  have hG : Gok 1 (GA (l7 s) 1) := gok7 hs.2.2
  refine LCalls_of ctxN_ok gL7 (by kernel_rfl) (MWp.haltH ctxN_ok _ _ _ _ (e7_RE s n k f fa fb st) (tr_cons (tLi_ok (by omega)) (tr_cons (tMe_ok (by omega)) (tr_cons (tTh_ok (by omega)) (tr_cons (tOk_ok hG (by omega)) (tr_cons (tMx_ok hn) (tr_cons (tR1_ok (by omega)) (tr_cons (tOk_ok hG (by omega)) trivial))))))) ?_)
  intro H hnx hl hc hos
  simp only [List.map_cons, List.map_nil, List.cons.injEq, and_true] at hos
  obtain ⟨h1, h2, h3, h4, h5, h6, h7⟩ := hos
  rw [gs_eq] at h2
  have ez : (fun e => f (0 + e)) = f := by funext e; rw [Nat.zero_add]
  rw [ez] at h6
  rw [Nat.zero_add] at h1
  exact ht H 14 19 2 (jOf s (gm (GA (l7 s) 1) 1) (n + 1) f) _ _ _ _ st (opened_R hl hc h1 h2 h3 h4 h5 h6 h7 (by decide)) (jOf_ok hs hG.mem hf) rfl (by show (n + 1) ≤ 1000; omega) (by omega) rfl (hlt7A s)
set_option maxRecDepth 100000 in
theorem e7_RR (s : Sv) (n k : Nat) (f fa fb : Nat → Int) (st : Int) : haltH [1, 8, 9, 74] [15, 14, 20, 19, 18, 12, 0] 21 rd7 (Ly.run ctxN 9000 [(0, true), (4, true), (4, true), (2, false), (1, true), (2, true), (2, true), (11, false), (1, true), (11, true)] (Ly.start Try.f7 [svV s (sl 0 (n + 1)) (sls 1 (k + 1)), .int .i64 st] (mkH [some (ints .u8 f (n + 1)), some (bytes2 fa fb (k + 1))]))) =
  (true, [tLi n, tLn k, tMe n, tTh st, tR1 k, tR2 k 1, tOkB (GB fa fb k (l7 s) 1) (0 + (k + 1)) 1, tMx n, tR1 n, tOkB (GB fa fb k (l7 s) 1) (0 + (k + 1)) 1], true, (Try.f7, k7, some 46, 2), v7 15 20 st, (true, true, true), [some (.cells (cellsPb 14 0 (mOf s) (inV 12 0 (0 + (n + 1))) nilV) 60), some (memL (gs (gm (GB fa fb k (l7 s) 1) (0 + (k + 1) + 1)))), some (.cells (cellsRb 19 18 (mOf s) (inV 0 0 (n + 1)) nilV) 56), some (memL (gm (GB fa fb k (l7 s) 1) (0 + (k + 1) + 1))), some (regsR (mOf s)), some (rowP (fun e => f (0 + e)) (n + 1)), some (rowR f (n + 1))]) := by kernel_rfl
theorem g7_RR (ht : Tail7) (s : Sv) (n k : Nat) (f fa fb : Nat → Int) (st : Int) (hs : s.Ok) (hn : n + 1 ≤ 256) (hk : k + 1 ≤ 300) (hf : ∀ e, e < n + 1 → B8 (f e)) (hb : ∀ e, e < k + 1 → B16 (fa e) ∧ B8 (fb e)) (hst : st ≤ 1000) : LCalls Try.prog 7 [svV s (sl 0 (n + 1)) (sls 1 (k + 1)), .int .i64 st] (mkH [some (ints .u8 f (n + 1)), some (bytes2 fa fb (k + 1))]) (fun u _ => u = .bool true) := by
  have hG : Gok (0 + (k + 1) + 1) (GB fa fb k (l7 s) 1) := gokB hb (gok7 hs.2.2)
  refine LCalls_of ctxN_ok gL7 (by kernel_rfl) (MWp.haltH ctxN_ok _ _ _ _ (e7_RR s n k f fa fb st) (tr_cons (tLi_ok (by omega)) (tr_cons (tLn_ok (by omega)) (tr_cons (tMe_ok (by omega)) (tr_cons (tTh_ok (by omega)) (tr_cons (tR1_ok (by omega)) (tr_cons (tR2_ok (by omega)) (tr_cons (tOkB_ok hG (by omega)) (tr_cons (tMx_ok hn) (tr_cons (tR1_ok (by omega)) (tr_cons (tOkB_ok hG (by omega)) trivial)))))))))) ?_)
  intro H hnx hl hc hos
  simp only [List.map_cons, List.map_nil, List.cons.injEq, and_true] at hos
  obtain ⟨h1, h2, h3, h4, h5, h6, h7⟩ := hos
  rw [gs_eq] at h2
  have ez : (fun e => f (0 + e)) = f := by funext e; rw [Nat.zero_add]
  rw [ez] at h6
  rw [Nat.zero_add] at h1
  exact ht H 15 20 2 (jOf s (gm (GB fa fb k (l7 s) 1) (0 + (k + 1) + 1)) (n + 1) f) _ _ _ _ st (opened_R hl hc h1 h2 h3 h4 h5 h6 h7 (by decide)) (jOf_ok hs hG.mem hf) rfl (by show (n + 1) ≤ 1000; omega) (by omega) rfl (hlt7B s fa fb k)
end Go.Proofs.Ytpggoincnebfnaa
namespace Go.Proofs.Ytpggoincnebfnaa
open Go Go.Ly Go.RowKit
def k7b : List KI := ((Ly.run ctxH 60 [] (behind (atSt Try.f7 k7 (some 46) 2 (v7 0 1 0) H0) (.int .i64 0) H0)).st rd7).top.k
def v7b (p r : Nat) (st : Int) : List Value := slots 108 [(1, .int .i64 st), (8, ptr p), (9, ptr r), (76, ptr r)]
def k7c : List KI := ((Ly.run ctxH 60 [] (behind (atSt Try.f7 k7b (some 46) 2 (v7b 0 1 0) H0) (.int .i64 0) H0)).st rd7).top.k
def v7c (p r : Nat) (st : Int) : List Value := slots 108 [(1, .int .i64 st), (8, ptr p), (9, ptr r), (79, ptr p), (80, .int .i64 st)]
def k7d : List KI := ((Ly.run ctxH 60 [] (behind (atSt Try.f7 k7c (some 46) 2 (v7c 0 1 0) H0) (cntV 0 0) H0)).st rd7).top.k
def v7d (p r : Nat) (st : Int) : List Value := slots 108 [(8, ptr p), (9, ptr r), (93, .bool true), (94, ptr p), (95, ptr r)]
def k7e : List KI := ((Ly.run ctxH 6 [] (behind (atSt Try.f7 k7d (some 46) 2 (v7d 0 1 0) H0) (.bool true) H0)).st rd7).top.k
def v7e (p r : Nat) : List Value := slots 108 [(98, .bool true), (102, .pointer (some ⟨p, 16, none⟩))]
theorem call7a (p r b : Nat) (st : Int) (H : Heap) : callOf env (atSt Try.f7 k7 (some 46) b (v7 p r st) H) = some (13, [ptr p]) := by kernel_rfl
theorem run7a (p r b : Nat) (st k : Int) (H H' : Heap) : haltF [1, 8, 9, 76] rd7 (Ly.run ctxH 60 [] (behind (atSt Try.f7 k7 (some 46) b (v7 p r st) H) (.int .i64 k) H')) = (true, [], true, (Try.f7, k7b, some 46, b), v7b p r st, H') := by kernel_rfl
theorem call7b (p r b : Nat) (st : Int) (H : Heap) : callOf env (atSt Try.f7 k7b (some 46) b (v7b p r st) H) = some (14, [ptr r]) := by kernel_rfl
theorem run7b (p r b : Nat) (st k : Int) (H H' : Heap) : haltF [1, 8, 9, 79, 80] rd7 (Ly.run ctxH 60 [] (behind (atSt Try.f7 k7b (some 46) b (v7b p r st) H) (.int .i64 k) H')) = (true, [], true, (Try.f7, k7c, some 46, b), v7c p r st, H') := by kernel_rfl
theorem call7c (p r b : Nat) (st : Int) (H : Heap) : callOf env (atSt Try.f7 k7c (some 46) b (v7c p r st) H) = some (16, [ptr p, .int .i64 st]) := by kernel_rfl
theorem run7c (p r b : Nat) (st k : Int) (H H' : Heap) : haltF [8, 9, 93, 94, 95] rd7 (Ly.run ctxH 60 [(6, true)] (behind (atSt Try.f7 k7c (some 46) b (v7c p r st) H) (cntV 0 k) H')) = (true, [(((k == 13) == decide (0 < st)) == true, true)], true, (Try.f7, k7d, some 46, b), v7d p r st, H') := by kernel_rfl
theorem call7d (p r b : Nat) (st : Int) (H : Heap) : callOf env (atSt Try.f7 k7d (some 46) b (v7d p r st) H) = some (15, [ptr p, ptr r]) := by kernel_rfl
theorem run7d (p r b : Nat) (st : Int) (H H' : Heap) : haltF [98, 102] rd7 (Ly.run ctxH 6 [] (behind (atSt Try.f7 k7d (some 46) b (v7d p r st) H) (.bool true) H')) = (true, [], true, (Try.f7, k7e, some 46, b), v7e p r, H') := by kernel_rfl
theorem val7 (p r b : Nat) (H : Heap) : opVal env (atSt Try.f7 k7e (some 46) b (v7e p r) H) = (match evLoad env H 4 (.pointer (some ⟨p, 16, none⟩)) with | .val v => some v | _ => none) := by kernel_rfl
theorem run7e (p r b : Nat) (H : Heap) : (Ly.run ctxH 60 [] (behind (atSt Try.f7 k7e (some 46) b (v7e p r) H) (.bool true) H)).fin? = some ([], .bool true, H) := by kernel_rfl
theorem tail7 : Tail7 := by
  intro H p r b s O V O2 V2 st ho hs hq hN hnx hh h0
  have hbig : big = 2147483000 := rfl
  refine MWp.ltn fun hlt _ => ?_
  obtain ⟨hP, hR⟩ := step_hlt hs hh h0
  refine MWp.call envOk (call7a p r b st H) (hP H p O V ho.P ho.lock ho.clean (by show H.next + 64 < big; omega)) ?_
  rintro v H1 ⟨rfl, hN1, O1, V1, hM1, hO1, hV1⟩
  have hT1 := ho.two.stepP hlt hN1.n hM1 hV1
  refine MWp.halted ctxH_ok _ _ _ (run7a p r b st 0 H H1) trivial ?_
  refine MWp.ltn fun hlt1 _ => ?_
  have g1 := hN1.ge
  refine MWp.call envOk (call7b p r b st H1) (hR H1 r O2 V2 hT1.R hT1.lock hT1.clean (by omega)) ?_
  rintro v H2 ⟨rfl, hN2, O3, V3, hM2, hO3, hV3⟩
  have hT2 := hT1.stepR hlt1 hN2.n hM2 hV3
  have g2 := hN2.ge
  refine MWp.halted ctxH_ok _ _ _ (run7b p r b st 0 H1 H2) trivial ?_
  refine MWp.ltn fun hlt2 _ => ?_
  have hm := hs.m
  have hs' : Js.Ok { s with m := { s.m with pc := w16 (s.m.pc + 1), halt := true } } := ⟨by obtain ⟨r0, r1, r2, r3, r4, r5, r7, sp, pc⟩ := hm; constructor <;> simp [*], hs.g, hs.f, hs.j⟩
  obtain ⟨k, hk, hC⟩ := run_halted hs' rfl st
  refine MWp.call envOk (call7c p r b st H2) (hC H2 p O1 V1 hT2.P hT2.lock hT2.clean (by omega)) ?_
  rintro v H3 ⟨rfl, hN3, O4, V4, hM3, hO4, hV4⟩
  have hT3 := hT2.stepP hlt2 hN3 hM3 hV4
  have g3 := hN3.ge
  refine MWp.halted ctxH_ok _ _ _ (run7c p r b st k H2 H3) ⟨by rw [hk]; rfl, trivial⟩ ?_
  refine MWp.call envOk (call7d p r b st H3) (hT3.sameP (by show H3.next + 16 < big; omega) (by show s.N ≤ _; omega) (by show s.q ≤ _; omega)) ?_
  rintro v H4 ⟨rfl, O5, V5, bb, rg, iv, ov, VI, VO, hPm, _, _⟩
  refine MWp.halted ctxH_ok _ _ _ (run7d p r b st H3 H4) trivial ?_
  refine MWp.val envOk (v := .bool true) ?_ (MWp.fin ctxH_ok 60 _ (run7e p r b H4) trivial rfl)
  rw [val7, load_halt hPm.cells]
theorem q7_NN0 (s : Sv) (n k : Nat) (f fa fb : Nat → Int) (st : Int) : endsAt [] (Ly.run ctxN 9000 [(13, true)] (Ly.start Try.f7 [svV s nilS nilS, .int .i64 st] (mkH [some (ints .u8 f n), some (bytes2 fa fb k)]))) = some ([((tTh st).1, true)], .bool true, 4, []) := by kernel_rfl
theorem q7_NE0 (s : Sv) (n k : Nat) (f fa fb : Nat → Int) (st : Int) : endsAt [] (Ly.run ctxN 9000 [(13, true)] (Ly.start Try.f7 [svV s nilS (sls 1 0), .int .i64 st] (mkH [some (ints .u8 f n), some (bytes2 fa fb 0)]))) = some ([((tTh st).1, true)], .bool true, 4, []) := by kernel_rfl
theorem q7_NR0 (s : Sv) (n k : Nat) (f fa fb : Nat → Int) (st : Int) : endsAt [] (Ly.run ctxN 9000 [(5, false)] (Ly.start Try.f7 [svV s nilS (sls 1 (k + 1)), .int .i64 st] (mkH [some (ints .u8 f n), some (bytes2 fa fb (k + 1))]))) = some ([((tLn k).1, false)], .bool true, 4, []) := by kernel_rfl
theorem q7_NR1 (s : Sv) (n k : Nat) (f fa fb : Nat → Int) (st : Int) : endsAt [] (Ly.run ctxN 9000 [(5, true), (7, true)] (Ly.start Try.f7 [svV s nilS (sls 1 (k + 1)), .int .i64 st] (mkH [some (ints .u8 f n), some (bytes2 fa fb (k + 1))]))) = some ([tLn k, ((tTh st).1, true)], .bool true, 4, []) := by kernel_rfl
theorem q7_EN0 (s : Sv) (n k : Nat) (f fa fb : Nat → Int) (st : Int) : endsAt [] (Ly.run ctxN 9000 [(13, true)] (Ly.start Try.f7 [svV s (sl 0 0) nilS, .int .i64 st] (mkH [some (ints .u8 f 0), some (bytes2 fa fb k)]))) = some ([((tTh st).1, true)], .bool true, 4, []) := by kernel_rfl
theorem q7_EE0 (s : Sv) (n k : Nat) (f fa fb : Nat → Int) (st : Int) : endsAt [] (Ly.run ctxN 9000 [(13, true)] (Ly.start Try.f7 [svV s (sl 0 0) (sls 1 0), .int .i64 st] (mkH [some (ints .u8 f 0), some (bytes2 fa fb 0)]))) = some ([((tTh st).1, true)], .bool true, 4, []) := by kernel_rfl
theorem q7_ER0 (s : Sv) (n k : Nat) (f fa fb : Nat → Int) (st : Int) : endsAt [] (Ly.run ctxN 9000 [(5, false)] (Ly.start Try.f7 [svV s (sl 0 0) (sls 1 (k + 1)), .int .i64 st] (mkH [some (ints .u8 f 0), some (bytes2 fa fb (k + 1))]))) = some ([((tLn k).1, false)], .bool true, 4, []) := by kernel_rfl
theorem q7_ER1 (s : Sv) (n k : Nat) (f fa fb : Nat → Int) (st : Int) : endsAt [] (Ly.run ctxN 9000 [(5, true), (7, true)] (Ly.start Try.f7 [svV s (sl 0 0) (sls 1 (k + 1)), .int .i64 st] (mkH [some (ints .u8 f 0), some (bytes2 fa fb (k + 1))]))) = some ([tLn k, ((tTh st).1, true)], .bool true, 4, []) := by kernel_rfl
theorem q7_RN0 (s : Sv) (n k : Nat) (f fa fb : Nat → Int) (st : Int) : endsAt [] (Ly.run ctxN 9000 [(0, false)] (Ly.start Try.f7 [svV s (sl 0 (n + 1)) nilS, .int .i64 st] (mkH [some (ints .u8 f (n + 1)), some (bytes2 fa fb k)]))) = some ([((tLi n).1, false)], .bool true, 4, []) := by kernel_rfl
theorem q7_RN1 (s : Sv) (n k : Nat) (f fa fb : Nat → Int) (st : Int) : endsAt [] (Ly.run ctxN 9000 [(0, true), (9, false)] (Ly.start Try.f7 [svV s (sl 0 (n + 1)) nilS, .int .i64 st] (mkH [some (ints .u8 f (n + 1)), some (bytes2 fa fb k)]))) = some ([tLi n, ((tMe n).1, false)], .bool true, 4, []) := by kernel_rfl
theorem q7_RN2 (s : Sv) (n k : Nat) (f fa fb : Nat → Int) (st : Int) : endsAt [] (Ly.run ctxN 9000 [(0, true), (9, true), (2, true)] (Ly.start Try.f7 [svV s (sl 0 (n + 1)) nilS, .int .i64 st] (mkH [some (ints .u8 f (n + 1)), some (bytes2 fa fb k)]))) = some ([tLi n, tMe n, ((tTh st).1, true)], .bool true, 4, []) := by kernel_rfl
theorem q7_RE0 (s : Sv) (n k : Nat) (f fa fb : Nat → Int) (st : Int) : endsAt [] (Ly.run ctxN 9000 [(0, false)] (Ly.start Try.f7 [svV s (sl 0 (n + 1)) (sls 1 0), .int .i64 st] (mkH [some (ints .u8 f (n + 1)), some (bytes2 fa fb 0)]))) = some ([((tLi n).1, false)], .bool true, 4, []) := by kernel_rfl
theorem q7_RE1 (s : Sv) (n k : Nat) (f fa fb : Nat → Int) (st : Int) : endsAt [] (Ly.run ctxN 9000 [(0, true), (9, false)] (Ly.start Try.f7 [svV s (sl 0 (n + 1)) (sls 1 0), .int .i64 st] (mkH [some (ints .u8 f (n + 1)), some (bytes2 fa fb 0)]))) = some ([tLi n, ((tMe n).1, false)], .bool true, 4, []) := by kernel_rfl
theorem q7_RE2 (s : Sv) (n k : Nat) (f fa fb : Nat → Int) (st : Int) : endsAt [] (Ly.run ctxN 9000 [(0, true), (9, true), (2, true)] (Ly.start Try.f7 [svV s (sl 0 (n + 1)) (sls 1 0), .int .i64 st] (mkH [some (ints .u8 f (n + 1)), some (bytes2 fa fb 0)]))) = some ([tLi n, tMe n, ((tTh st).1, true)], .bool true, 4, []) := by kernel_rfl
theorem q7_RR0 (s : Sv) (n k : Nat) (f fa fb : Nat → Int) (st : Int) : endsAt [] (Ly.run ctxN 9000 [(0, false)] (Ly.start Try.f7 [svV s (sl 0 (n + 1)) (sls 1 (k + 1)), .int .i64 st] (mkH [some (ints .u8 f (n + 1)), some (bytes2 fa fb (k + 1))]))) = some ([((tLi n).1, false)], .bool true, 4, []) := by kernel_rfl
theorem q7_RR1 (s : Sv) (n k : Nat) (f fa fb : Nat → Int) (st : Int) : endsAt [] (Ly.run ctxN 9000 [(0, true), (4, false)] (Ly.start Try.f7 [svV s (sl 0 (n + 1)) (sls 1 (k + 1)), .int .i64 st] (mkH [some (ints .u8 f (n + 1)), some (bytes2 fa fb (k + 1))]))) = some ([tLi n, ((tLn k).1, false)], .bool true, 4, []) := by kernel_rfl
theorem q7_RR2 (s : Sv) (n k : Nat) (f fa fb : Nat → Int) (st : Int) : endsAt [] (Ly.run ctxN 9000 [(0, true), (4, true), (4, false)] (Ly.start Try.f7 [svV s (sl 0 (n + 1)) (sls 1 (k + 1)), .int .i64 st] (mkH [some (ints .u8 f (n + 1)), some (bytes2 fa fb (k + 1))]))) = some ([tLi n, tLn k, ((tMe n).1, false)], .bool true, 4, []) := by kernel_rfl
theorem q7_RR3 (s : Sv) (n k : Nat) (f fa fb : Nat → Int) (st : Int) : endsAt [] (Ly.run ctxN 9000 [(0, true), (4, true), (4, true), (2, true)] (Ly.start Try.f7 [svV s (sl 0 (n + 1)) (sls 1 (k + 1)), .int .i64 st] (mkH [some (ints .u8 f (n + 1)), some (bytes2 fa fb (k + 1))]))) = some ([tLi n, tLn k, tMe n, ((tTh st).1, true)], .bool true, 4, []) := by kernel_rfl
theorem nils_walk (W : World) (v0 v1 : Value) (h0 : ∃ cs, v0 = .agg ⟨cs⟩ ∧ CksOk W [.int .u8, .int .u8, .int .u8, .int .u8, .int .u8, .int .u8, .int .u8, .int .u8, .bool, .bool, .bool, .bool, .bool, .int .u16, .int .u16, .bool, .slice [.int .u8], .slice [.int .u16, .int .u8]] cs)
    (h1 : CkOk W (.int .i64) v1) : Calls Try.prog 7 #[v0, v1] W fun e W' => e = .returned (.bool true) ∧ Below W.heap.size W W' := by
  simp only [CkOk] at h1
  obtain ⟨st, rfl, hst⟩ := h1
  refine start_law h0 (rest := [.int .i64 st]) (by simp [plain, plainL]) ?_ ?_ ?_ ?_ ?_ ?_ ?_ ?_ ?_
  · intro s n k f fa fb hs
    rcases Int.lt_or_le 1000 st with hst | hst
    · exact (Ends.of_run ctxN_ok 9000 _ gL7 (by kernel_rfl) (q7_NN0 s n k f fa fb st) (tr_cons (tTh_no (by omega)) trivial)).mono (fun u K h => h.1)
    exact g7_NN tail7 s n k f fa fb st hs hst
  · intro s n k f fa fb hs
    rcases Int.lt_or_le 1000 st with hst | hst
    · exact (Ends.of_run ctxN_ok 9000 _ gL7 (by kernel_rfl) (q7_NE0 s n k f fa fb st) (tr_cons (tTh_no (by omega)) trivial)).mono (fun u K h => h.1)
    exact g7_NE tail7 s n k f fa fb st hs hst
  · intro s n k f fa fb hs hb
    rcases Nat.lt_or_ge 300 (k + 1) with hk | hk
    · exact (Ends.of_run ctxN_ok 9000 _ gL7 (by kernel_rfl) (q7_NR0 s n k f fa fb st) (tr_cons (tLn_no (by omega)) trivial)).mono (fun u K h => h.1)
    rcases Int.lt_or_le 1000 st with hst | hst
    · exact (Ends.of_run ctxN_ok 9000 _ gL7 (by kernel_rfl) (q7_NR1 s n k f fa fb st) (tr_cons (tLn_ok (by omega)) (tr_cons (tTh_no (by omega)) trivial))).mono (fun u K h => h.1)
    exact g7_NR tail7 s n k f fa fb st hs hk hb hst
  · intro s n k f fa fb hs
    rcases Int.lt_or_le 1000 st with hst | hst
    · exact (Ends.of_run ctxN_ok 9000 _ gL7 (by kernel_rfl) (q7_EN0 s n k f fa fb st) (tr_cons (tTh_no (by omega)) trivial)).mono (fun u K h => h.1)
    exact g7_EN tail7 s n k f fa fb st hs hst
  · intro s n k f fa fb hs
    rcases Int.lt_or_le 1000 st with hst | hst
    · exact (Ends.of_run ctxN_ok 9000 _ gL7 (by kernel_rfl) (q7_EE0 s n k f fa fb st) (tr_cons (tTh_no (by omega)) trivial)).mono (fun u K h => h.1)
    exact g7_EE tail7 s n k f fa fb st hs hst
  · intro s n k f fa fb hs hb
    rcases Nat.lt_or_ge 300 (k + 1) with hk | hk
    · exact (Ends.of_run ctxN_ok 9000 _ gL7 (by kernel_rfl) (q7_ER0 s n k f fa fb st) (tr_cons (tLn_no (by omega)) trivial)).mono (fun u K h => h.1)
    rcases Int.lt_or_le 1000 st with hst | hst
    · exact (Ends.of_run ctxN_ok 9000 _ gL7 (by kernel_rfl) (q7_ER1 s n k f fa fb st) (tr_cons (tLn_ok (by omega)) (tr_cons (tTh_no (by omega)) trivial))).mono (fun u K h => h.1)
    exact g7_ER tail7 s n k f fa fb st hs hk hb hst
  · intro s n k f fa fb hs hf
    rcases Nat.lt_or_ge 300 (n + 1) with e1 | e1
    · exact (Ends.of_run ctxN_ok 9000 _ gL7 (by kernel_rfl) (q7_RN0 s n k f fa fb st) (tr_cons (no_Li7 (by omega)) trivial)).mono (fun u K h => h.1)
    rcases Nat.lt_or_ge 256 (n + 1) with hn | hn
    · exact (Ends.of_run ctxN_ok 9000 _ gL7 (by kernel_rfl) (q7_RN1 s n k f fa fb st) (tr_cons (tLi_ok (by omega)) (tr_cons (tMe_no (by omega)) trivial))).mono (fun u K h => h.1)
    rcases Int.lt_or_le 1000 st with hst | hst
    · exact (Ends.of_run ctxN_ok 9000 _ gL7 (by kernel_rfl) (q7_RN2 s n k f fa fb st) (tr_cons (tLi_ok (by omega)) (tr_cons (tMe_ok (by omega)) (tr_cons (tTh_no (by omega)) trivial)))).mono (fun u K h => h.1)
    exact g7_RN tail7 s n k f fa fb st hs hn hf hst
  · intro s n k f fa fb hs hf
    rcases Nat.lt_or_ge 300 (n + 1) with e1 | e1
    · exact (Ends.of_run ctxN_ok 9000 _ gL7 (by kernel_rfl) (q7_RE0 s n k f fa fb st) (tr_cons (no_Li7 (by omega)) trivial)).mono (fun u K h => h.1)
    rcases Nat.lt_or_ge 256 (n + 1) with hn | hn
    · exact (Ends.of_run ctxN_ok 9000 _ gL7 (by kernel_rfl) (q7_RE1 s n k f fa fb st) (tr_cons (tLi_ok (by omega)) (tr_cons (tMe_no (by omega)) trivial))).mono (fun u K h => h.1)
    rcases Int.lt_or_le 1000 st with hst | hst
    · exact (Ends.of_run ctxN_ok 9000 _ gL7 (by kernel_rfl) (q7_RE2 s n k f fa fb st) (tr_cons (tLi_ok (by omega)) (tr_cons (tMe_ok (by omega)) (tr_cons (tTh_no (by omega)) trivial)))).mono (fun u K h => h.1)
    exact g7_RE tail7 s n k f fa fb st hs hn hf hst
  · intro s n k f fa fb hs hf hb
    rcases Nat.lt_or_ge 300 (n + 1) with e1 | e1
    · exact (Ends.of_run ctxN_ok 9000 _ gL7 (by kernel_rfl) (q7_RR0 s n k f fa fb st) (tr_cons (no_Li7 (by omega)) trivial)).mono (fun u K h => h.1)
    rcases Nat.lt_or_ge 300 (k + 1) with hk | hk
    · exact (Ends.of_run ctxN_ok 9000 _ gL7 (by kernel_rfl) (q7_RR1 s n k f fa fb st) (tr_cons (tLi_ok (by omega)) (tr_cons (tLn_no (by omega)) trivial))).mono (fun u K h => h.1)
    rcases Nat.lt_or_ge 256 (n + 1) with hn | hn
    · exact (Ends.of_run ctxN_ok 9000 _ gL7 (by kernel_rfl) (q7_RR2 s n k f fa fb st) (tr_cons (tLi_ok (by omega)) (tr_cons (tLn_ok (by omega)) (tr_cons (tMe_no (by omega)) trivial)))).mono (fun u K h => h.1)
    rcases Int.lt_or_le 1000 st with hst | hst
    · exact (Ends.of_run ctxN_ok 9000 _ gL7 (by kernel_rfl) (q7_RR3 s n k f fa fb st) (tr_cons (tLi_ok (by omega)) (tr_cons (tLn_ok (by omega)) (tr_cons (tMe_ok (by omega)) (tr_cons (tTh_no (by omega)) trivial))))).mono (fun u K h => h.1)
    exact g7_RR tail7 s n k f fa fb st hs hn hk hf hb hst
end Go.Proofs.Ytpggoincnebfnaa
end
