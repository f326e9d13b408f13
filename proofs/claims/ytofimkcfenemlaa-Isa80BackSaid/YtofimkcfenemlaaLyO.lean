/- Part O: plain values; a closed function of plain values answers as its own run does; runs with tests on trust. -/
import Derived.Test.YtofimkcfenemlaaLyN
namespace Go.Ly
open Go.RowKit
set_option linter.unusedSimpArgs false
set_option linter.unusedVariables false

mutual
/-- a value that names no block, all through -/
noncomputable def plain : Value → Bool
  | .bool _ | .int _ _ | .string _ | .pointer none | .slice none _ _ | .map none | .nilFunc | .nilIface => true
  | .agg ⟨xs⟩ => plainL xs
  | .tuple ⟨xs⟩ => plainL xs
  | _ => false
noncomputable def plainL : List Value → Bool
  | [] => true
  | v :: r => plain v && plainL r
end

mutual
theorem plain_VR {ρ : Ren} : ∀ (v : Value), plain v = true → VR ρ v v
  | .bool _, _ => by simp [VR]
  | .int _ _, _ => by simp [VR]
  | .string _, _ => by simp [VR]
  | .pointer none, _ => by simp [VR]
  | .pointer (some _), h => by simp [plain] at h
  | .slice none _ _, _ => by simp [VR]
  | .slice (some _) _ _, h => by simp [plain] at h
  | .map none, _ => by simp [VR]
  | .map (some _), h => by simp [plain] at h
  | .func _ _ _, h => by simp [plain] at h
  | .nilFunc, _ => by simp [VR]
  | .iface _ _, h => by simp [plain] at h
  | .nilIface, _ => by simp [VR]
  | .agg ⟨xs⟩, h => by simp only [plain] at h; simp only [VR]; exact ⟨xs, plainL_VR xs h, rfl⟩
  | .tuple ⟨xs⟩, h => by simp only [plain] at h; simp only [VR]; exact ⟨xs, plainL_VR xs h, rfl⟩
  | .float _ _, h => by simp [plain] at h
  | .complex _ _ _, h => by simp [plain] at h
  | .chan _, h => by simp [plain] at h
theorem plainL_VR {ρ : Ren} : ∀ (l : List Value), plainL l = true → VRL ρ l l
  | [], _ => by simp [VRL]
  | v :: r, h => by
    simp only [plainL, Bool.and_eq_true] at h
    simp only [VRL]
    exact ⟨v, r, plain_VR v h.1, plainL_VR r h.2, rfl⟩
end

mutual
theorem plain_rig : ∀ (v : Value), plain v = true → rig v = true
  | .bool _, _ => rfl
  | .int _ _, _ => rfl
  | .string _, _ => rfl
  | .pointer none, _ => rfl
  | .pointer (some _), h => by simp [plain] at h
  | .slice none _ _, _ => rfl
  | .slice (some _) _ _, h => by simp [plain] at h
  | .map none, _ => rfl
  | .map (some _), h => by simp [plain] at h
  | .func _ _ _, h => by simp [plain] at h
  | .nilFunc, _ => rfl
  | .iface _ _, h => by simp [plain] at h
  | .nilIface, _ => rfl
  | .agg ⟨xs⟩, h => by simp only [plain] at h; simp only [rig]; exact plainL_rig xs h
  | .tuple ⟨xs⟩, h => by simp only [plain] at h; simp only [rig]; exact plainL_rig xs h
  | .float _ _, h => by simp [plain] at h
  | .complex _ _ _, h => by simp [plain] at h
  | .chan _, h => by simp [plain] at h
theorem plainL_rig : ∀ (l : List Value), plainL l = true → rigL l = true
  | [], _ => rfl
  | v :: r, h => by
    simp only [plainL, Bool.and_eq_true] at h
    simp only [rigL, Bool.and_eq_true]
    exact ⟨plain_rig v h.1, plainL_rig r h.2⟩
end

theorem plain_eq {ρ : Ren} {v v' : Value} (h : plain v = true) (hv : VR ρ v v') : v' = v := rig_one v (plain_rig v h) v' v hv (plain_VR v h)
theorem plainL_eq {ρ : Ren} {l l' : List Value} (h : plainL l = true) (hv : VRL ρ l l') : l' = l := rigL_one l (plainL_rig l h) l' l hv (plainL_VR l h)

/-- what a function of plain values answers, by its own run in the context C -/
noncomputable def conRun (C : Ctx) (n : Nat) (f : Nat) (args : List Value) : ER :=
  bif plainL args then
    (match C.fn.get f with
    | none => .no
    | some fn =>
      bif Nat.ble args.length fn.ntmps && Nat.blt fn.ntmps 1000000 then
        (match (run C n [] (start fn args H0)).val? with
        | some v => bif plain v then .val v else .no
        | none => .no)
      else .no)
  else .no

theorem conRun_good {P : Program} {C : Ctx} (hC : C.Ok P) (n : Nat) (f : Nat) (args : List Value) (ρ : Ren) (args' : List Value) (w : World) (ha : VRL ρ args args') : ConGood P f args' w (conRun C n f args) := by
  unfold conRun
  cases hp : plainL args with
  | false => exact trivial
  | true =>
    obtain rfl := plainL_eq hp ha
    simp only [cond_true]
    cases hf : C.fn.get f with
    | none => exact trivial
    | some fn =>
      simp only
      cases hl : (Nat.ble args'.length fn.ntmps && Nat.blt fn.ntmps 1000000) with
      | false => exact trivial
      | true =>
        simp only [cond_true]
        cases hv : (run C n [] (start fn args' H0)).val? with
        | none => exact trivial
        | some v =>
          simp only
          cases hpv : plain v with
          | false => exact trivial
          | true =>
            exact ⟨fun ρ => plain_VR v hpv, calls_plain (plainL_VR args' hp) (fun ρ v' h => plain_eq hpv h) (LCalls_run hC n hf hl hv) w⟩

/-- some functions closed, each answering as its own run does -/
noncomputable def Env.shut (E : Env) (n : Nat) (fs : List Nat) : Ctx := { toEnv := E, con := fun f _ args => conRun E.bare n f args, opq := fun f => fs.any (Nat.beq f), hcon := fun _ _ _ => .no }
theorem Env.shut_ok {P : Program} {E : Env} (h : E.Ok P) (n : Nat) (fs : List Nat) : (E.shut n fs).Ok P :=
  { toOk := h, con := fun f args ρ args' w _ ha _ => conRun_good (Env.bare_ok h) n f args ρ args' w ha, hcon := fun _ _ _ => trivial }

/-! ### tests on trust -/
noncomputable def RO.out? : RO → Option (List (Bool × Bool) × Value)
  | .ok t (.done v _) => some (t, v)
  | _ => none

theorem LCalls_trust {P : Program} {C : Ctx} (hC : C.Ok P) {f : FuncId} {fn : Func} {args : List Value} {H : Heap} {t : List (Bool × Bool)} {v : Value} (n : Nat) (p : Path) (hf : C.fn.get f = some fn)
    (hl : (Nat.ble args.length fn.ntmps && Nat.blt fn.ntmps 1000000) = true) (h : (run C n p (start fn args H)).out? = some (t, v)) (ht : trusted t) : LCalls P f args H (fun u _ => u = v) := by
  refine LCalls_of hC hf hl ?_
  cases hr : run C n p (start fn args H) with
  | no => rw [hr] at h; simp [RO.out?] at h
  | ok t' l =>
    rw [hr] at h
    cases l with
    | halt S => simp [RO.out?] at h
    | done u H' =>
      simp only [RO.out?, Option.some.injEq, Prod.mk.injEq] at h
      obtain ⟨rfl, rfl⟩ := h
      exact run_sound hC n p _ t' _ hr ht rfl

theorem calls_trust {P : Program} {C : Ctx} (hC : C.Ok P) {f : FuncId} {fn : Func} {args : List Value} {t : List (Bool × Bool)} {v : Value} (n : Nat) (p : Path) (hf : C.fn.get f = some fn)
    (hl : (Nat.ble args.length fn.ntmps && Nat.blt fn.ntmps 1000000) = true) (ha : plainL args = true) (hv : plain v = true) (h : (run C n p (start fn args H0)).out? = some (t, v)) (ht : trusted t) (w : World) :
    Calls P f ⟨args⟩ w (fun e w' => e = .returned v ∧ Below w.heap.size w w') :=
  calls_plain (plainL_VR args ha) (fun ρ v' h => plain_eq hv h) (LCalls_trust hC n p hf hl h ht) w
end Go.Ly
