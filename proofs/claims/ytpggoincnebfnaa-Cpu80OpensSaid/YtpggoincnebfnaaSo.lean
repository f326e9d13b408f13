/- A step of the program's machine and one of the document's, from one state: the frame of the proof for each opcode. -/
import Derived.Test.YtpggoincnebfnaaSj
import Derived.KernelRfl
namespace Go.Ly
section
variable {P : Program}
theorem Rep.grow {ρ : Ren} {H : Heap} {w : World} {n : Nat} (h : H.next ≤ n) (hb : n < big) (hr : Rep ρ H w) : Rep ρ { H with next := n } w :=
  ⟨hb, fun i b e => ⟨Nat.lt_of_lt_of_le (hr.dom i b e).1 h, (hr.dom i b e).2⟩, hr.inj, fun i o e => Nat.lt_of_lt_of_le (hr.ltn i o e) h, hr.obj, hr.arg⟩
/-- a greater next number -/
theorem Ends.grow {f : FuncId} {args : List Value} {os : List (Option LO)} {I : List Nat} {v : Value} {nx : Nat} {os' : List (Option LO)} (h : Ends P f args os I v nx os') {n : Nat} (hn : nx ≤ n) (hb : n < big) : Ends P f args os I v n os' := by
  intro ρ args' w ha hr
  refine (h ρ args' w ha hr).mono ?_
  rintro e w' ⟨ρ', u, u', H', rfl, ⟨rfl, h1, h2, h3⟩, h4, h5, h6, h7, h8⟩
  exact ⟨ρ', u, u', { H' with next := n }, rfl, ⟨rfl, rfl, h2, h3⟩, h4, h5, h6, h7.grow (by omega) hb, h8⟩
end
end Go.Ly
namespace Go.Proofs.Ytpggoincnebfnaa
open Go Go.Ly Go.RowKit
set_option linter.unusedVariables false
set_option linter.unusedSimpArgs false
/-- bytes, words -/
def B8 (n : Int) : Prop := 0 ≤ n ∧ n ≤ 255
def B16 (n : Int) : Prop := 0 ≤ n ∧ n ≤ 65535
structure Mc.Ok (m : Mc) : Prop where
  r0 : B8 m.r0
  r1 : B8 m.r1
  r2 : B8 m.r2
  r3 : B8 m.r3
  r4 : B8 m.r4
  r5 : B8 m.r5
  r7 : B8 m.r7
  sp : B16 m.sp
  pc : B16 m.pc
def Mem (g : Nat → Int) : Prop := ∀ e, B8 (g e)
/-- a byte put into memory -/
noncomputable def upd (g : Nat → Int) (i : Nat) (v : Int) : Nat → Int := fun e => bif Nat.beq e i then v else g e
theorem upd_mem {g : Nat → Int} {i : Nat} {v : Int} (hg : Mem g) (hv : B8 v) : Mem (upd g i v) := by
  intro e; unfold upd; cases Nat.beq e i <;> simp [hv, hg e]
theorem mem1 (g : Nat → Int) (i : Nat) (v : Int) : LOeq (.fn 1 (updG (fun e _ => .int .u8 (g e)) i 0 [.int .u8 v]) 65536 5) (memL (upd g i v)) := by
  refine .inr ⟨1, _, _, _, _, rfl, rfl, fun e x _ hx => ?_⟩
  obtain rfl : x = 0 := by omega
  rfl
theorem mem2 (g : Nat → Int) (i j : Nat) (u v : Int) : LOeq (.fn 1 (updG (updG (fun e _ => .int .u8 (g e)) i 0 [.int .u8 u]) j 0 [.int .u8 v]) 65536 5) (memL (upd (upd g i u) j v)) := by
  refine .inr ⟨1, _, _, _, _, rfl, rfl, fun e x _ hx => ?_⟩
  obtain rfl : x = 0 := by omega
  rfl
theorem upd_comm {g : Nat → Int} {i j : Nat} {u v : Int} (h : i ≠ j) : upd (upd g i u) j v = upd (upd g j v) i u := by
  funext e
  unfold upd
  by_cases h1 : e = i
  · subst h1
    have : Nat.beq e j = false := by rw [Bool.eq_false_iff, Ne, Nat.beq_eq]; exact h
    simp [this]
  · have : Nat.beq e i = false := by rw [Bool.eq_false_iff, Ne, Nat.beq_eq]; exact h1
    simp [this]
/-- both machines step, from one state to one -/
def Both (m : Mc) (g : Nat → Int) : Prop :=
  ∃ (m' : Mc) (g' : Nat → Int) (k : Int), m'.Ok ∧ Mem g' ∧ Ly.Ends Try.prog 13 [ptr 0] (hP m g) [0, 1] (.int .i64 k) 64 (hP m' g') ∧ Ly.Ends Try.prog 14 [ptr 0] (hR m g) [0, 1, 2] (.int .i64 k) 64 (hR m' g')
theorem gP13 : ctx3.fn.get 13 = some Try.f13 := by kernel_rfl
theorem gP14 : ctx3.fn.get 14 = some Try.f14 := by kernel_rfl
theorem wrap16 (n : Int) : B16 (IntKind.u16.wrap n) := by unfold B16; rw [IntKind.wrap_u16]; omega
theorem inw_of {n : Int} (h : B16 n) : inw n = true := (inw_iff n).2 h
theorem inb_of {n : Int} (h : B8 n) : inb n = true := (inb_iff n).2 h
theorem idx_of {n : Int} (h : B16 n) : (decide (0 ≤ n) && decide (n < 65536)) = true := by unfold B16 at h; simp; omega
theorem blt_of {n : Int} (h : B16 n) : Nat.blt (0 + n.toNat * 1) 65536 = true := by unfold B16 at h; rw [Nat.blt_eq]; omega
theorem trP {m : Mc} (hm : m.Ok) (hh : m.halt = false) : trusted (tP m) := by
  simp only [tP, trusted, hh, idx_of hm.pc, blt_of hm.pc, idx_of (wrap16 _), at1, blt_of (wrap16 _), and_self]
theorem trR {m : Mc} (hm : m.Ok) (hh : m.halt = false) : trusted (tR m) := by
  simp only [tR, trusted, hh, idx_of hm.pc, blt_of hm.pc, and_self]
theorem join {m m' : Mc} {g g' : Nat → Int} {k b0 : Int} {nP nR : Nat} {tP' tR' : List (Bool × Bool)} {pP pR : Path} {osP osR : List (Option LO)} (hm : m.Ok) (hh : m.halt = false) (h0 : g (0 + m.pc.toNat * 1) = b0)
    (hp : endsAt [0, 1] (Ly.run ctx3 3000 pP (sP m g b0 (g (at1 m.pc 1)) (g (at1 m.pc 2)))) = some (tP', .int .i64 k, nP, osP))
    (hr : endsAt [0, 1, 2] (Ly.run ctx3 3000 pR (sR m g b0)) = some (tR', .int .i64 k, nR, osR))
    (h1 : trusted tP') (h2 : trusted tR') (h3 : nP ≤ 64) (h4 : nR ≤ 64) (h5 : Each2 OLeq osP (hP m' g')) (h6 : Each2 OLeq osR (hR m' g')) (h7 : m'.Ok) (h8 : Mem g') : Both m g := by
  refine ⟨m', g', k, h7, h8, ?_, ?_⟩
  · have e1 := MWp.ends ctx3_ok 3000 pP hp h1
    have e2 : Ly.Ends Try.prog 13 [ptr 0] (hP m g) [0, 1] (.int .i64 k) nP osP := by
      refine LCalls_of ctx3_ok gP13 (by kernel_rfl) (MWp.halted (haltAt_ok ctx3_ok 27) [0, 53] 300 pathP (juncP m g) (trP hm hh) ?_)
      rw [h0]; exact e1
    exact (e2.eqv (by kernel_rfl) h5).grow h3 (by unfold big; omega)
  · have e1 := MWp.ends ctx3_ok 3000 pR hr h2
    have e2 : Ly.Ends Try.prog 14 [ptr 0] (hR m g) [0, 1, 2] (.int .i64 k) nR osR := by
      refine LCalls_of ctx3_ok gP14 (by kernel_rfl) (MWp.halted (haltAt_ok ctx3_ok 32) [0, 3, 20] 300 pathR (juncR m g) (trR hm hh) ?_)
      rw [h0]; exact e1
    exact (e2.eqv (by kernel_rfl) h6).grow h4 (by unfold big; omega)
end Go.Proofs.Ytpggoincnebfnaa
