/- Part V: arguments that are rows of numbers. -/
import Derived.Test.YtofimkcfenemlaaLyU
import Derived.Test.YtofimkcfenemlaaLyQ
namespace Go.Ly
open Go.RowKit
set_option linter.unusedSimpArgs false
set_option linter.unusedVariables false
section
variable {P : Program} {w : World}
theorem ck_row {k : IntKind} {v : Value} (h : CkOk w (.slice [.int k]) v) : v = .slice none 0 0 ∨ ∃ (n : Nat) (f : Nat → Int) (p : Option Plc), RealRow w k f n v p ∧ (∀ e, e < n → (Lit.int k (f e)).wf = true) ∧ n ≤ maxLen := by
  simp only [CkOk] at h
  rcases h with rfl | ⟨a, len, cap, F, rfl, hlc, hcap, hF⟩
  · exact .inl rfl
  · right
    have hF' : ∀ i, i < len → ∃ m, F i = [.int k m] ∧ (Lit.int k m).wf = true ∧ a.block < w.heap.size ∧ a.spot = none ∧ w.cell? (a.add i) = some (.int k m) := by
      intro i hi
      obtain ⟨h1, h2, h3⟩ := hF i hi
      simp only [CksOk, CkOk] at h3
      obtain ⟨v, r, e1, ⟨m, rfl, hw⟩, rfl⟩ := h3
      obtain ⟨h4, h5, h6⟩ := h2 0 (by simp)
      simp only [List.length_cons, List.length_nil, Nat.zero_add, Nat.mul_one, Nat.add_zero] at h6
      exact ⟨m, e1, hw, h4, h5, by rw [h6, e1]; rfl⟩
    refine ⟨len, fun e => intV ((F e)[0]?.getD undef), bif Nat.blt 0 len then some ⟨a.block, a.off, cap⟩ else none, ⟨⟨a, cap, rfl, hlc, fun hn => ?_⟩, fun q hq => ?_, fun e he => ?_⟩, fun e he => ?_, Nat.le_trans hlc hcap⟩
    · have hb : Nat.blt 0 len = true := by rw [Nat.blt_eq]; omega
      rw [hb]
      obtain ⟨m, _, _, _, h5, _⟩ := hF' 0 (by omega)
      refine ⟨_, rfl, ?_, rfl⟩
      cases a; simp_all
    · cases hb : Nat.blt 0 len with
      | false => rw [hb] at hq; cases hq
      | true =>
        rw [hb] at hq; simp only [cond_true, Option.some.injEq] at hq; subst hq
        obtain ⟨m, _, _, h4, _⟩ := hF' 0 (by simpa [Nat.blt_eq] using hb)
        exact h4
    · have hb : Nat.blt 0 len = true := by rw [Nat.blt_eq]; omega
      rw [hb]
      obtain ⟨m, e1, _, _, h5, h6⟩ := hF' e he
      refine ⟨_, rfl, ?_⟩
      have ha : a.add e = ⟨a.block, a.off + e, none⟩ := by
        obtain ⟨ab, ao, as⟩ := a; simp only at h5; subst h5; exact addr_add ab ao e
      rw [← ha, h6, e1]; rfl
    · obtain ⟨m, e1, hw, _⟩ := hF' e he
      show (Lit.int k (intV ((F e)[0]?.getD undef))).wf = true
      rw [e1]; exact hw

/-- plain arguments, and one row behind them -/
theorem calls_row {f : FuncId} {args : List Value} {v x' : Value} {k : IntKind} {g : Nat → Int} {n : Nat} {p : Option Plc} (h : LCalls P f (args ++ [sl 0 n]) (mkH [some (ints k g n)]) (fun u _ => u = v)) (hv : plain v = true) (ha : plainL args = true) (hrow : RealRow w k g n x' p) :
    Calls P f ⟨args ++ [x']⟩ w (fun e w' => e = .returned v ∧ Below w.heap.size w w') := by
  refine calls_ro (ρ := rowsRen [p]) h hv (VRL.append (plainL_VR _ ha) (by simp only [VRL]; exact ⟨x', [], sl_VR hrow (by simp), rfl, rfl⟩))
    (rows_rep (l := [p]) (rs := [(k, g, n)]) rfl (by simp) (by
      intro i q hq
      rcases i with _ | i
      · simp at hq; exact hrow.low q hq
      · simp at hq) (by
      intro i k' f' n' h0 e he
      rcases i with _ | i
      · simp at h0; obtain ⟨rfl, rfl, rfl⟩ := h0
        obtain ⟨q, h3, h4⟩ := hrow.cell e he
        exact ⟨q, by simp [h3], h4⟩
      · simp at h0)) (fun _ => rfl)
end
end Go.Ly
