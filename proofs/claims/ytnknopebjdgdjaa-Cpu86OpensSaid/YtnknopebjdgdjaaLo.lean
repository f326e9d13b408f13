/- The argument Start; short words; memory. By program (genlw.py). -/
import Derived.Test.YtnknopebjdgdjaaCb
import Derived.Test.YtnknopebjdgdjaaE8r
import Derived.KernelRfl
import Derived.OpenShut
namespace Go.Ly
section
variable {P : Program}
theorem Rep.grow {ρ : Ren} {H : Heap} {w : World} {n : Nat} (h : H.next ≤ n) (hb : n < big) (hr : Rep ρ H w) : Rep ρ { H with next := n } w :=
  ⟨hb, fun i b e => ⟨Nat.lt_of_lt_of_le (hr.dom i b e).1 h, (hr.dom i b e).2⟩, hr.inj, fun i o e => Nat.lt_of_lt_of_le (hr.ltn i o e) h, hr.obj, hr.arg⟩
theorem Ends.grow {f : FuncId} {args : List Value} {os : List (Option LO)} {I : List Nat} {v : Value} {nx : Nat} {os' : List (Option LO)} (h : Ends P f args os I v nx os') {n : Nat} (hn : nx ≤ n) (hb : n < big) : Ends P f args os I v n os' := by
  intro ρ args' w ha hr
  refine (h ρ args' w ha hr).mono ?_
  rintro e w' ⟨ρ', u, u', H', rfl, ⟨rfl, h1, h2, h3⟩, h4, h5, h6, h7, h8⟩
  exact ⟨ρ', u, u', { H' with next := n }, rfl, ⟨rfl, rfl, h2, h3⟩, h4, h5, h6, h7.grow (by omega) hb, h8⟩
end
end Go.Ly
namespace Go.Proofs.Ytnknopebjdgdjaa
open Go Go.Ly Go.RowKit
set_option linter.unusedVariables false
set_option linter.unusedSimpArgs false
structure Sv where
  r0 : Int
  r1 : Int
  r2 : Int
  r3 : Int
  r4 : Int
  r5 : Int
  r6 : Int
  r7 : Int
  fs : Bool
  fz : Bool
  fx : Bool
  fp : Bool
  fc : Bool
  ip : Int
  ie : Bool
noncomputable def svV (s : Sv) (i c d : Value) : Value := .agg ⟨[.int .u16 s.r0, .int .u16 s.r1, .int .u16 s.r2, .int .u16 s.r3, .int .u16 s.r4, .int .u16 s.r5, .int .u16 s.r6, .int .u16 s.r7, .bool s.fs, .bool s.fz, .bool s.fx, .bool s.fp, .bool s.fc, .int .u16 s.ip, .bool s.ie, i, c, d]⟩
noncomputable def nilS : Value := .slice none 0 0
/-- a list of bytes and their addresses -/
noncomputable def bytes2 (a b : Nat → Int) (n : Nat) : LO := .arg 2 (fun e j => match j with | 0 => .int .u16 (a e) | _ + 1 => .int .u8 (b e)) n
noncomputable def memL (f : Nat → Int) : LO := .fn 1 (fun e _ => .int .u8 (f e)) 65536 5
noncomputable def ptr (i : Nat) : Value := .pointer (some ⟨i, 0, none⟩)
noncomputable def inw (a : Int) : Bool := decide (0 ≤ a) && decide (a ≤ 65535)
theorem inw_iff (a : Int) : inw a = true ↔ 0 ≤ a ∧ a ≤ 65535 := by unfold inw; rw [Bool.and_eq_true, decide_eq_true_eq, decide_eq_true_eq]
def B8 (n : Int) : Prop := 0 ≤ n ∧ n ≤ 255
def B16 (n : Int) : Prop := 0 ≤ n ∧ n ≤ 65535
def Mem (g : Nat → Int) : Prop := ∀ e, B8 (g e)
noncomputable def upd (g : Nat → Int) (i : Nat) (v : Int) : Nat → Int := fun e => bif Nat.beq e i then v else g e
theorem upd_mem {g : Nat → Int} {i : Nat} {v : Int} (hg : Mem g) (hv : B8 v) : Mem (upd g i v) := by
  intro e; unfold upd; cases Nat.beq e i <;> simp [hv, hg e]
theorem mem1 (g : Nat → Int) (i : Nat) (v : Int) : LOeq (.fn 1 (updG (fun e _ => .int .u8 (g e)) i 0 [.int .u8 v]) 65536 5) (memL (upd g i v)) := by
  refine .inr ⟨1, _, _, _, _, rfl, rfl, fun e x _ hx => ?_⟩
  obtain rfl : x = 0 := by omega
  rfl
theorem mem2 (g : Nat → Int) (i j : Nat) (u v : Int) : LOeq (.fn 1 (updG (updG (fun e _ => .int .u8 (g e)) i 0 [.int .u8 u]) j 0 [.int .u8 v]) 65536 5) (memL (upd (upd g i u) j v)) := by
  refine .inr ⟨1, _, _, _, _, rfl, rfl, fun e x _ hx => ?_⟩
  obtain rfl : x = 0 := by omega
  rfl
theorem upd_comm {g : Nat → Int} {i j : Nat} {u v : Int} (h : i ≠ j) : upd (upd g i u) j v = upd (upd g j v) i u := by
  funext e
  unfold upd
  by_cases h1 : e = i
  · subst h1
    have : Nat.beq e j = false := by rw [Bool.eq_false_iff, Ne, Nat.beq_eq]; exact h
    simp [this]
  · have : Nat.beq e i = false := by rw [Bool.eq_false_iff, Ne, Nat.beq_eq]; exact h1
    simp [this]
noncomputable def ix (n : Int) : Nat := 0 + n.toNat * 1
noncomputable def rg (n : Int) : Bool := decide (0 ≤ n) && decide (n < 65536)
noncomputable def bl (n : Nat) : Bool := Nat.blt n 65536
noncomputable def M1 (g : Nat → Int) (i : Nat) (v : Int) : LO := .fn 1 (updG (fun e _ => .int .u8 (g e)) i 0 [.int .u8 v]) 65536 5
theorem rgt {n : Int} (h : B16 n) : rg n = true := by unfold B16 at h; unfold rg; simp; omega
theorem blt' {n : Int} (h : B16 n) : bl (ix n) = true := by unfold B16 at h; unfold bl ix; rw [Nat.blt_eq]; omega
theorem trnil : trusted [] = True := rfl
theorem trcons (b d : Bool) (l : List (Bool × Bool)) : trusted ((b, d) :: l) = (b = d ∧ trusted l) := rfl
end Go.Proofs.Ytnknopebjdgdjaa
