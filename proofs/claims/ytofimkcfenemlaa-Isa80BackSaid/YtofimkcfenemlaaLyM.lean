/- Part M: runs of many steps; calls. -/
import Derived.Test.YtofimkcfenemlaaLyK
namespace Go.Ly
open Go.RowKit
set_option linter.unusedSimpArgs false
set_option linter.unusedVariables false

/-! ### runs: a path tells which tests are taken on trust, and which way: after so many that are reckoned -/
abbrev Path := List (Nat × Bool)

inductive Leaf where
  | done (v : Value) (H : Heap)
  | halt (S : St)

inductive RO where
  | ok (trust : List (Bool × Bool)) (l : Leaf)
  | no

noncomputable def RO.add (b d : Bool) : RO → RO
  | .ok l x => .ok ((b, d) :: l) x
  | .no => .no

noncomputable def runSR (rec : Path → St → RO) (S : St) : Path → SR → RO
  | p, .go S' => rec p S'
  | _, .done v H => .ok [] (.done v H)
  | _, .stop => .ok [] (.halt S)
  | _, .no => .no
  | [], .tst b x y => bif b then runSR rec S [] x else runSR rec S [] y
  | (0, d) :: p, .tst b x y => (bif d then runSR rec S p x else runSR rec S p y).add b d
  | (k + 1, d) :: p, .tst b x y => bif b then runSR rec S ((k, d) :: p) x else runSR rec S ((k, d) :: p) y

noncomputable def run (C : Ctx) : Nat → Path → St → RO
  | 0, _, S => .ok [] (.halt S)
  | n + 1, p, S => runSR (run C n) S p (step C S)

noncomputable def Leaf.sat (P : Program) (Q : Value → Heap → Prop) : Leaf → Prop
  | .done v H => Q v H
  | .halt S => MWp P S Q

noncomputable def trusted : List (Bool × Bool) → Prop
  | [] => True
  | (b, d) :: l => b = d ∧ trusted l

section
variable {P : Program} {C : Ctx} {Q : Value → Heap → Prop}

theorem runSR_sound {rec : Path → St → RO} {S : St} (hrec : ∀ p S' t l, rec p S' = .ok t l → trusted t → l.sat P Q → MWp P S' Q) :
    ∀ (x : SR) (p : Path) (t : List (Bool × Bool)) (l : Leaf), runSR rec S p x = .ok t l → trusted t → l.sat P Q → (l = .halt S ∧ True) ∨ x.sat P Q
  | .go S', p, t, l, h, ht, hl => by
    simp only [runSR] at h
    exact .inr (hrec p S' t l h ht hl)
  | .done v H, p, t, l, h, ht, hl => by
    simp only [runSR, RO.ok.injEq] at h
    obtain ⟨_, rfl⟩ := h
    exact .inr hl
  | .stop, p, t, l, h, ht, hl => by
    simp only [runSR, RO.ok.injEq] at h
    obtain ⟨_, rfl⟩ := h
    exact .inl ⟨rfl, trivial⟩
  | .no, p, t, l, h, ht, hl => by simp [runSR] at h
  | .tst b x y, [], t, l, h, ht, hl => by
    simp only [runSR] at h
    cases b with
    | true =>
      rcases runSR_sound hrec x [] t l h ht hl with h1 | h1
      · exact .inl h1
      · exact .inr ⟨fun _ => h1, fun e => by cases e⟩
    | false =>
      rcases runSR_sound hrec y [] t l h ht hl with h1 | h1
      · exact .inl h1
      · exact .inr ⟨fun e => (by cases e), fun _ => h1⟩
  | .tst b x y, (k + 1, d) :: p, t, l, h, ht, hl => by
    simp only [runSR] at h
    cases b with
    | true =>
      rcases runSR_sound hrec x _ t l h ht hl with h1 | h1
      · exact .inl h1
      · exact .inr ⟨fun _ => h1, fun e => by cases e⟩
    | false =>
      rcases runSR_sound hrec y _ t l h ht hl with h1 | h1
      · exact .inl h1
      · exact .inr ⟨fun e => (by cases e), fun _ => h1⟩
  | .tst b x y, (0, d) :: p, t, l, h, ht, hl => by
    simp only [runSR] at h
    cases d with
    | true =>
      simp only [cond_true] at h
      cases hx : runSR rec S p x with
      | no => rw [hx] at h; simp [RO.add] at h
      | ok t' l' =>
        rw [hx] at h; simp only [RO.add, RO.ok.injEq] at h
        obtain ⟨rfl, rfl⟩ := h
        rcases runSR_sound hrec x p t' l' hx ht.2 hl with h1 | h1
        · exact .inl h1
        · refine .inr ⟨fun _ => h1, fun e => ?_⟩
          have := ht.1; rw [e] at this; cases this
    | false =>
      simp only [cond_false] at h
      cases hx : runSR rec S p y with
      | no => rw [hx] at h; simp [RO.add] at h
      | ok t' l' =>
        rw [hx] at h; simp only [RO.add, RO.ok.injEq] at h
        obtain ⟨rfl, rfl⟩ := h
        rcases runSR_sound hrec y p t' l' hx ht.2 hl with h1 | h1
        · exact .inl h1
        · refine .inr ⟨fun e => ?_, fun _ => h1⟩
          have := ht.1; rw [e] at this; cases this

theorem run_sound (hC : C.Ok P) : ∀ (n : Nat) (p : Path) (S : St) (t : List (Bool × Bool)) (l : Leaf), run C n p S = .ok t l → trusted t → l.sat P Q → MWp P S Q
  | 0, p, S, t, l, h, _, hl => by simp only [run, RO.ok.injEq] at h; obtain ⟨_, rfl⟩ := h; exact hl
  | n + 1, p, S, t, l, h, ht, hl => by
    simp only [run] at h
    rcases runSR_sound (P := P) (Q := Q) (fun p S' t l => run_sound hC n p S' t l) _ p t l h ht hl with ⟨rfl, _⟩ | h1
    · exact hl
    · exact step_sound hC h1

/-! ### calls -/
noncomputable def start (fn : Func) (args : List Value) (H : Heap) : St :=
  { top := { fn := fn, t := trArgs args 0 .nil, k := match fn.body with | some c => [.code c] | none => [], dst := none }, rest := [], H := H, base := H.next }

theorem LCalls_of {f : FuncId} {fn : Func} {args : List Value} {H : Heap} (hC : C.Ok P) (hf : C.fn.get f = some fn)
    (hl : (Nat.ble args.length fn.ntmps && Nat.blt fn.ntmps 1000000) = true) (h : MWp P (start fn args H) Q) : LCalls P f args H Q := by
  obtain ⟨hp, hbody, _⟩ := hC.fn f fn hf
  simp only [Bool.and_eq_true, Nat.blt_eq] at hl
  have hl1 := Nat.le_of_ble_eq_true hl.1
  intro ρ args' w ha hr
  cases hb : fn.body with
  | none => rw [hb] at hbody; cases hbody
  | some c =>
    refine calls_of_wp hp hb ?_
    have hk : (start fn args H).top.k = [.code c] := by simp [start, hb]
    have hcut : Ren.le ρ (ρ.cut H.next) := fun i b e => ⟨by simp only [Ren.cut]; rw [if_pos (hr.dom i b e).1], rfl, rfl, rfl, rfl⟩
    have := h ρ w { fn := fn, k := [.code c], dst := none, a := { tmps := (⟨args'⟩ : Array Value) ++ Array.replicate (fn.ntmps - (⟨args'⟩ : Array Value).size) undef, defers := [] } } []
      (fun v' w' => ∃ ρ' v H', Q v H' ∧ Ren.le ρ ρ' ∧ Fresh ρ ρ' w ∧ VR ρ' v v' ∧ Rep ρ' H' w' ∧ Keep ρ w w') hr ⟨rfl, by rw [hk], rfl, enter_TR ha hl1 hl.2⟩ (by simp [start, FRL])
      (fun ρ' v v' H' w' hq h1 h2 h3 h4 h5 => ⟨ρ', v, H', hq, Ren.le_trans hcut h1, h2, h3, h4, h5⟩)
    have h2 : c.wp P (topPost P fn [] (fun v' w' => ∃ ρ' v H', Q v H' ∧ Ren.le ρ ρ' ∧ Fresh ρ ρ' w ∧ VR ρ' v v' ∧ Rep ρ' H' w' ∧ Keep ρ w w')) _ w := this
    refine wp_mono h2 ?_
    intro e a w' hq
    cases e with
    | normal =>
      obtain ⟨hd, v, hres, v', he, ρ', u, H', hQ, h1, h2, h3, h4, h5⟩ := hq
      obtain rfl : v = v' := by injection he
      exact ⟨hd, v, hres, ρ', u, v, H', rfl, hQ, h1, h2, h3, h4, h5⟩
    | ret =>
      obtain ⟨hd, v, hres, v', he, ρ', u, H', hQ, h1, h2, h3, h4, h5⟩ := hq
      obtain rfl : v = v' := by injection he
      exact ⟨hd, v, hres, ρ', u, v, H', rfl, hQ, h1, h2, h3, h4, h5⟩
    | panic c => obtain ⟨_, v', he, _⟩ := hq; cases he
    | outgrown => obtain ⟨v', he, _⟩ := hq; cases he
    | exit id => exact hq
    | goto l => exact hq

/-- the empty heap -/
noncomputable def H0 : Heap := { m := .nil, next := 0 }
noncomputable def ρ0 : Ren := ⟨fun _ => none, fun _ => 0, fun _ => false, fun _ => 0, fun _ => 0⟩
theorem Rep0 (w : World) : Rep ρ0 H0 w :=
  ⟨by simp [H0, big], fun i b h => by simp [ρ0] at h, fun i j b o h => by simp [H0, Heap.get, Tr.get_nil] at h, fun i o h => by simp [H0, Heap.get, Tr.get_nil] at h, fun i o h => by simp [H0, Heap.get, Tr.get_nil] at h, fun i k g n h => by simp [H0, Heap.get, Tr.get_nil] at h⟩

/-- a function of plain values that answers one: what it made is new memory, and nothing else has changed -/
theorem calls_plain {f : FuncId} {args : List Value} {v : Value} (ha : VRL ρ0 args args) (hv : ∀ ρ v', VR ρ v v' → v' = v) (h : LCalls P f args H0 (fun u _ => u = v)) (w : World) :
    Calls P f ⟨args⟩ w (fun e w' => e = .returned v ∧ Below w.heap.size w w') := by
  refine (h ρ0 args w ha (Rep0 w)).mono ?_
  rintro e w' ⟨ρ', u, v', H', rfl, rfl, _, _, h3, _, h5⟩
  refine ⟨by rw [hv _ _ h3], h5.os, h5.tape, h5.output, h5.size, fun k hk => h5.block k hk (fun i e => by simp [ρ0] at e)⟩
end
end Go.Ly
