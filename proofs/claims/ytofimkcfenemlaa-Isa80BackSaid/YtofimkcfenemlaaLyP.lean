/- Part P: contracts of plain values, one after another; equality of plain values; numbers of a kind. -/
import Derived.Test.YtofimkcfenemlaaLyO
import Derived.Laws.BitsAllLaws
import Derived.Laws.BitsLemmas
import Derived.Laws.Bits64
namespace Go.Ly
open Go.RowKit
set_option linter.unusedSimpArgs false
set_option linter.unusedVariables false

/-- a closed function: under a guard it answers one plain value -/
noncomputable def conAns : Option (Bool × Value) → ER
  | some (g, v) => .tst g (.val v) .no
  | none => .no

noncomputable def Ctx.with (C : Ctx) (f : Nat) (c : List Value → Option (Bool × Value)) : Ctx :=
  { toEnv := C.toEnv, con := fun g H args => bif Nat.beq g f then conAns (c args) else C.con g H args, opq := fun g => Nat.beq g f || C.opq g, hcon := C.hcon }

/-- what a contract of plain values says -/
def Answers (P : Program) (f : Nat) (c : List Value → Option (Bool × Value)) : Prop :=
  ∀ args g v, c args = some (g, v) → g = true → plainL args = true ∧ plain v = true ∧ ∀ w, Calls P f ⟨args⟩ w (fun e w' => e = .returned v ∧ Below w.heap.size w w')

theorem Ctx.Ok.with {P : Program} {C : Ctx} (h : C.Ok P) {f : Nat} {c : List Value → Option (Bool × Value)} (hc : Answers P f c) : (C.with f c).Ok P := by
  refine { toOk := h.toOk, hcon := h.hcon, con := fun k args ρ args' w H ha hr => ?_ }
  simp only [Ctx.with]
  cases hk : Nat.beq k f with
  | false => exact h.con k args ρ args' w H ha hr
  | true =>
    obtain rfl := Nat.eq_of_beq_eq_true hk
    simp only [cond_true]
    cases hca : c args with
    | none => exact trivial
    | some gv =>
      obtain ⟨g, v⟩ := gv
      refine ⟨fun hg => ?_, fun _ => trivial⟩
      obtain ⟨hp, hv, hw⟩ := hc args g v hca hg
      obtain rfl := plainL_eq hp ha
      exact ⟨fun ρ => plain_VR v hv, hw w⟩

mutual
noncomputable def peq : Value → Value → Bool
  | .bool a, .bool b => a == b
  | .int k a, .int k' b => decide (k = k') && decide (a = b)
  | .agg ⟨xs⟩, .agg ⟨ys⟩ => peqL xs ys
  | .tuple ⟨xs⟩, .tuple ⟨ys⟩ => peqL xs ys
  | _, _ => false
noncomputable def peqL : List Value → List Value → Bool
  | [], [] => true
  | v :: r, u :: s => peq v u && peqL r s
  | _, _ => false
end
mutual
theorem peq_eq : ∀ (v u : Value), peq v u = true → v = u
  | .bool a, u, h => by cases u <;> simp_all [peq]
  | .int k a, u, h => by cases u <;> simp_all [peq]
  | .agg ⟨xs⟩, u, h => by
    cases u with
    | agg ys => obtain ⟨ys⟩ := ys; simp only [peq] at h; rw [peqL_eq xs ys h]
    | _ => simp [peq] at h
  | .tuple ⟨xs⟩, u, h => by
    cases u with
    | tuple ys => obtain ⟨ys⟩ := ys; simp only [peq] at h; rw [peqL_eq xs ys h]
    | _ => simp [peq] at h
  | .string _, u, h => by cases u <;> simp [peq] at h
  | .pointer _, u, h => by cases u <;> simp [peq] at h
  | .slice _ _ _, u, h => by cases u <;> simp [peq] at h
  | .map _, u, h => by cases u <;> simp [peq] at h
  | .func _ _ _, u, h => by cases u <;> simp [peq] at h
  | .nilFunc, u, h => by cases u <;> simp [peq] at h
  | .iface _ _, u, h => by cases u <;> simp [peq] at h
  | .nilIface, u, h => by cases u <;> simp [peq] at h
  | .float _ _, u, h => by cases u <;> simp [peq] at h
  | .complex _ _ _, u, h => by cases u <;> simp [peq] at h
  | .chan _, u, h => by cases u <;> simp [peq] at h
theorem peqL_eq : ∀ (l m : List Value), peqL l m = true → l = m
  | [], m, h => by cases m <;> simp_all [peqL]
  | v :: r, m, h => by
    cases m with
    | nil => simp [peqL] at h
    | cons u s =>
      simp only [peqL, Bool.and_eq_true] at h
      rw [peq_eq v u h.1, peqL_eq r s h.2]
end

/-- all tests come as trusted -/
def tok : List (Bool × Bool) → Bool
  | [] => true
  | (b, d) :: r => (b == d) && tok r
theorem tok_trusted : ∀ (t : List (Bool × Bool)), tok t = true → trusted t
  | [], _ => trivial
  | (b, d) :: r, h => by
    simp only [tok, Bool.and_eq_true, beq_iff_eq] at h
    exact ⟨h.1, tok_trusted r h.2⟩

/-- one leaf of a run, whose tests come as trusted and whose value is the wanted one -/
theorem calls_leaf {P : Program} {C : Ctx} (hC : C.Ok P) {f : FuncId} {fn : Func} {args : List Value} {t : List (Bool × Bool)} {v u : Value} (n : Nat) (p : Path) (hf : C.fn.get f = some fn)
    (hl : (Nat.ble args.length fn.ntmps && Nat.blt fn.ntmps 1000000) = true) (ha : plainL args = true) (hu : plain u = true) (h : (run C n p (start fn args H0)).out? = some (t, v)) (ht : (tok t && peq v u) = true) (w : World) :
    Calls P f ⟨args⟩ w (fun e w' => e = .returned u ∧ Below w.heap.size w w') := by
  simp only [Bool.and_eq_true] at ht
  obtain rfl := peq_eq v u ht.2
  exact calls_trust hC n p hf hl ha hu h (tok_trusted t ht.1) w

/-! ### bytes -/
theorem byte_all {p : Int → Prop} (h : ∀ n : Fin 256, p (n.val : Int)) (b : Int) (h0 : 0 ≤ b) (h1 : b ≤ 255) : p b := by
  have := h ⟨b.toNat, by omega⟩
  have e : ((b.toNat : Nat) : Int) = b := by omega
  simpa [e] using this
noncomputable def inb (a : Int) : Bool := decide (0 ≤ a) && decide (a ≤ 255)
theorem inb_iff (a : Int) : inb a = true ↔ 0 ≤ a ∧ a ≤ 255 := by simp [inb]
theorem and128 (b : Int) (h0 : 0 ≤ b) (h1 : b ≤ 255) : (bits .and .u8 b 128 != 0) = decide (128 ≤ b) :=
  byte_all (p := fun b => (bits .and .u8 b 128 != 0) = decide (128 ≤ b)) (by decide +kernel) b h0 h1
theorem and15 (b : Int) (h0 : 0 ≤ b) (h1 : b ≤ 255) : bits .and .u8 b 15 = b % 16 :=
  byte_all (p := fun b => bits .and .u8 b 15 = b % 16) (by decide +kernel) b h0 h1
theorem not8 (b : Int) (h0 : 0 ≤ b) (h1 : b ≤ 255) : bits .xor .u8 (bif IntKind.u8.signed then -1 else IntKind.u8.max) b = 255 - b :=
  byte_all (p := fun b => bits .xor .u8 (bif IntKind.u8.signed then -1 else IntKind.u8.max) b = 255 - b) (by decide +kernel) b h0 h1
theorem fin_all (k : Nat) {p : Int → Prop} (h : ∀ n : Fin k, p (n.val : Int)) (b : Int) (h0 : 0 ≤ b) (h1 : b < k) : p b := by
  have := h ⟨b.toNat, by omega⟩
  have e : ((b.toNat : Nat) : Int) = b := by omega
  simpa [e] using this
theorem and255 (b : Int) (h0 : 0 ≤ b) (h1 : b < 1024) : bits .and .i64 b 255 = b % 256 :=
  fin_all 1024 (p := fun b => bits .and .i64 b 255 = b % 256) (by decide +kernel) b h0 h1
end Go.Ly
