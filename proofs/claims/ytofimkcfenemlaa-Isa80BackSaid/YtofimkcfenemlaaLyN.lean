/- Part N: tables of types and functions. -/
import Derived.Test.YtofimkcfenemlaaLyM
namespace Go.Ly
set_option linter.unusedSimpArgs false
set_option linter.unusedVariables false

noncomputable def Tr.ofList {α : Type} : List (Nat × α) → Tr α
  | [] => .nil
  | (n, x) :: l => (Tr.ofList l).set n (some x)

theorem Tr.get_ofList {α : Type} {p : Nat → α → Prop} : ∀ (l : List (Nat × α)), (∀ q ∈ l, q.1 < big ∧ p q.1 q.2) → ∀ n x, (Tr.ofList l).get n = some x → p n x
  | [], _, n, x, h => by simp [Tr.ofList, Tr.get_nil] at h
  | (m, y) :: l, hl, n, x, h => by
    have h1 := hl (m, y) (by simp)
    rw [Tr.ofList, Tr.get_set _ _ _ h1.1] at h
    by_cases e : n = m
    · rw [if_pos e] at h; simp at h; subst h e; exact h1.2
    · rw [if_neg e] at h; exact Tr.get_ofList l (fun q hq => hl q (by simp [hq])) n x h

noncomputable def TyOk (P : Program) (t : TypeId) (i : TI) : Prop :=
  P.underlying t = some i.desc ∧ (∃ j, P.info? t = some j ∧ j.size = i.size ∧ j.zero = i.zero ∧ j.bytes = i.bytes) ∧ (i.eqok = true → P.stoodInHeld t = false ∧ P.eqGuardType P.depth t = false)
noncomputable def FnOk (P : Program) (f : Nat) (g : Func) : Prop := P.funcs[f]? = some g ∧ g.body.isSome = true ∧ (g.name == "runtime.NumGoroutine") = false

/-- each of a list's members is so -/
noncomputable def Each {α : Type} (p : Nat → α → Prop) : List (Nat × α) → Prop
  | [] => True
  | (n, x) :: l => p n x ∧ Each p l

theorem Each.mem {α : Type} {p : Nat → α → Prop} : ∀ {l : List (Nat × α)}, Each p l → (l.all fun q => Nat.blt q.1 2147483000) = true → ∀ q ∈ l, q.1 < big ∧ p q.1 q.2
  | [], _, _, q, h => by cases h
  | (n, x) :: l, h, hb, q, hq => by
    simp only [List.all_cons, Bool.and_eq_true, Nat.blt_eq] at hb
    cases hq with
    | head => exact ⟨hb.1, h.1⟩
    | tail _ hq => exact Each.mem h.2 hb.2 q hq

theorem Env.ok_of {P : Program} {ts : List (Nat × TI)} {fs : List (Nat × Func)} (ht : Each (TyOk P) ts) (hf : Each (FnOk P) fs)
    (h1 : (ts.all fun q => Nat.blt q.1 2147483000) = true) (h2 : (fs.all fun q => Nat.blt q.1 2147483000) = true) (hm : P.follows .mixedOrders = true) :
    Env.Ok { ty := Tr.ofList ts, fn := Tr.ofList fs } P :=
  ⟨fun t i h => Tr.get_ofList ts (Each.mem ht h1) t i h, fun f g h => Tr.get_ofList fs (Each.mem hf h2) f g h, hm⟩

/-- the value that a run came to, nothing taken on trust -/
noncomputable def RO.val? : RO → Option Value
  | .ok [] (.done v _) => some v
  | _ => none

theorem LCalls_run {P : Program} {C : Ctx} (hC : C.Ok P) {f : FuncId} {fn : Func} {args : List Value} {H : Heap} {v : Value} (n : Nat) (hf : C.fn.get f = some fn)
    (hl : (Nat.ble args.length fn.ntmps && Nat.blt fn.ntmps 1000000) = true) (h : (run C n [] (start fn args H)).val? = some v) : LCalls P f args H (fun u _ => u = v) := by
  refine LCalls_of hC hf hl ?_
  cases hr : run C n [] (start fn args H) with
  | no => rw [hr] at h; simp [RO.val?] at h
  | ok t l =>
    rw [hr] at h
    cases t with
    | cons _ _ => simp [RO.val?] at h
    | nil =>
      cases l with
      | halt S => simp [RO.val?] at h
      | done u H' =>
        simp only [RO.val?, Option.some.injEq] at h
        exact run_sound hC n [] _ [] _ hr trivial h

/-- no function's answer is given, none is closed -/
noncomputable def Env.bare (E : Env) : Ctx := { toEnv := E, con := fun _ _ _ => .no, opq := fun _ => false, hcon := fun _ _ _ => .no }
theorem Env.bare_ok {P : Program} {E : Env} (h : E.Ok P) : E.bare.Ok P := { toOk := h, con := fun _ _ _ _ _ _ _ _ => trivial, hcon := fun _ _ _ => trivial }

/-! ### a law of plain values, run -/
noncomputable def yes : Option Value → Bool
  | some (.bool true) => true
  | _ => false

theorem yes_eq {o : Option Value} (h : yes o = true) : o = some (.bool true) := by
  unfold yes at h
  split at h
  · rfl
  · cases h

theorem calls_yes {P : Program} {C : Ctx} (hC : C.Ok P) {f : FuncId} {fn : Func} {args : List Value} (n : Nat) (hf : C.fn.get f = some fn)
    (hl : (Nat.ble args.length fn.ntmps && Nat.blt fn.ntmps 1000000) = true) (ha : VRL ρ0 args args) (h : yes (run C n [] (start fn args H0)).val? = true) (w : World) :
    Calls P f ⟨args⟩ w (fun e w' => e = .returned (.bool true) ∧ Go.RowKit.Below w.heap.size w w') :=
  calls_plain ha (fun ρ v' hv => by simpa [VR] using hv) (LCalls_run hC n hf hl (yes_eq h)) w

theorem range_all {p : Nat → Bool} {a k : Nat} (h : ((List.range k).all fun i => p (a + i)) = true) (n : Nat) (h1 : a ≤ n) (h2 : n < a + k) : p n = true := by
  have := List.all_eq_true.1 h (n - a) (List.mem_range.2 (by omega))
  rwa [show a + (n - a) = n by omega] at this
end Go.Ly
