/- Part 3 of the texts that the law needs, laid together. By program (pack.py). -/
import Derived.Test.YtnknopebjdgdjaaPfb
import Derived.Laws.BitsAllLaws
import Derived.Laws.BitsLemmas
import Derived.Laws.Bits64
import Derived.Deep.Slices
import Derived.OpenShut
import Derived.Carry
set_option linter.unusedVariables false
set_option linter.unusedSimpArgs false
noncomputable section
namespace Go.Ly
open Go.RowKit
abbrev Path := List (Nat × Bool)
inductive Leaf where
  | done (v : Value) (H : Heap)
  | halt (S : St)
inductive RO where
  | ok (trust : List (Bool × Bool)) (l : Leaf)
  | no
def RO.add (b d : Bool) : RO → RO
  | .ok l x => .ok ((b, d) :: l) x
  | .no => .no
def runSR (rec : Path → St → RO) (S : St) : Path → SR → RO
  | p, .go S' => rec p S'
  | _, .done v H => .ok [] (.done v H)
  | _, .stop => .ok [] (.halt S)
  | _, .no => .no
  | [], .tst b x y => bif b then runSR rec S [] x else runSR rec S [] y
  | (0, d) :: p, .tst b x y => (bif d then runSR rec S p x else runSR rec S p y).add b d
  | (k + 1, d) :: p, .tst b x y => bif b then runSR rec S ((k, d) :: p) x else runSR rec S ((k, d) :: p) y
def run (C : Ctx) : Nat → Path → St → RO
  | 0, _, S => .ok [] (.halt S)
  | n + 1, p, S => runSR (run C n) S p (step C S)
def Leaf.sat (P : Program) (Q : Value → Heap → Prop) : Leaf → Prop
  | .done v H => Q v H
  | .halt S => MWp P S Q
def trusted : List (Bool × Bool) → Prop
  | [] => True
  | (b, d) :: l => b = d ∧ trusted l
section
variable {P : Program} {C : Ctx} {Q : Value → Heap → Prop}
theorem runSR_sound {rec : Path → St → RO} {S : St} (hrec : ∀ p S' t l, rec p S' = .ok t l → trusted t → l.sat P Q → MWp P S' Q) :
    ∀ (x : SR) (p : Path) (t : List (Bool × Bool)) (l : Leaf), runSR rec S p x = .ok t l → trusted t → l.sat P Q → (l = .halt S ∧ True) ∨ x.sat P Q
  | .go S', p, t, l, h, ht, hl => by
    simp only [runSR] at h
    exact .inr (hrec p S' t l h ht hl)
  | .done v H, p, t, l, h, ht, hl => by
    simp only [runSR, RO.ok.injEq] at h
    obtain ⟨_, rfl⟩ := h
    exact .inr hl
  | .stop, p, t, l, h, ht, hl => by
    simp only [runSR, RO.ok.injEq] at h
    obtain ⟨_, rfl⟩ := h
    exact .inl ⟨rfl, trivial⟩
  | .no, p, t, l, h, ht, hl => by simp [runSR] at h
  | .tst b x y, [], t, l, h, ht, hl => by
    simp only [runSR] at h
    cases b with
    | true =>
      rcases runSR_sound hrec x [] t l h ht hl with h1 | h1
      · exact .inl h1
      · exact .inr ⟨fun _ => h1, fun e => by cases e⟩
    | false =>
      rcases runSR_sound hrec y [] t l h ht hl with h1 | h1
      · exact .inl h1
      · exact .inr ⟨fun e => (by cases e), fun _ => h1⟩
  | .tst b x y, (k + 1, d) :: p, t, l, h, ht, hl => by
    simp only [runSR] at h
    cases b with
    | true =>
      rcases runSR_sound hrec x _ t l h ht hl with h1 | h1
      · exact .inl h1
      · exact .inr ⟨fun _ => h1, fun e => by cases e⟩
    | false =>
      rcases runSR_sound hrec y _ t l h ht hl with h1 | h1
      · exact .inl h1
      · exact .inr ⟨fun e => (by cases e), fun _ => h1⟩
  | .tst b x y, (0, d) :: p, t, l, h, ht, hl => by
    simp only [runSR] at h
    cases d with
    | true =>
      simp only [cond_true] at h
      cases hx : runSR rec S p x with
      | no => rw [hx] at h; simp [RO.add] at h
      | ok t' l' =>
        rw [hx] at h; simp only [RO.add, RO.ok.injEq] at h
        obtain ⟨rfl, rfl⟩ := h
        rcases runSR_sound hrec x p t' l' hx ht.2 hl with h1 | h1
        · exact .inl h1
        · refine .inr ⟨fun _ => h1, fun e => ?_⟩
          have := ht.1; rw [e] at this; cases this
    | false =>
      simp only [cond_false] at h
      cases hx : runSR rec S p y with
      | no => rw [hx] at h; simp [RO.add] at h
      | ok t' l' =>
        rw [hx] at h; simp only [RO.add, RO.ok.injEq] at h
        obtain ⟨rfl, rfl⟩ := h
        rcases runSR_sound hrec y p t' l' hx ht.2 hl with h1 | h1
        · exact .inl h1
        · refine .inr ⟨fun e => ?_, fun _ => h1⟩
          have := ht.1; rw [e] at this; cases this
theorem run_sound (hC : C.Ok P) : ∀ (n : Nat) (p : Path) (S : St) (t : List (Bool × Bool)) (l : Leaf), run C n p S = .ok t l → trusted t → l.sat P Q → MWp P S Q
  | 0, p, S, t, l, h, _, hl => by simp only [run, RO.ok.injEq] at h; obtain ⟨_, rfl⟩ := h; exact hl
  | n + 1, p, S, t, l, h, ht, hl => by
    simp only [run] at h
    rcases runSR_sound (P := P) (Q := Q) (fun p S' t l => run_sound hC n p S' t l) _ p t l h ht hl with ⟨rfl, _⟩ | h1
    · exact hl
    · exact step_sound hC h1
def start (fn : Func) (args : List Value) (H : Heap) : St :=
  { top := { fn := fn, t := trArgs args 0 .nil, k := match fn.body with | some c => [.code c] | none => [], dst := none }, rest := [], H := H, base := H.next }
theorem LCalls_of {f : FuncId} {fn : Func} {args : List Value} {H : Heap} (hC : C.Ok P) (hf : C.fn.get f = some fn)
    (hl : (Nat.ble args.length fn.ntmps && Nat.blt fn.ntmps 1000000) = true) (h : MWp P (start fn args H) Q) : LCalls P f args H Q := by
  obtain ⟨hp, hbody, _⟩ := hC.fn f fn hf
  simp only [Bool.and_eq_true, Nat.blt_eq] at hl
  have hl1 := Nat.le_of_ble_eq_true hl.1
  intro ρ args' w ha hr
  cases hb : fn.body with
  | none => rw [hb] at hbody; cases hbody
  | some c =>
    refine calls_of_wp hp hb ?_
    have hk : (start fn args H).top.k = [.code c] := by simp [start, hb]
    have hcut : Ren.le ρ (ρ.cut H.next) := ⟨fun i b e => ⟨by simp only [Ren.cut]; rw [if_pos (hr.dom i b e).1], rfl, rfl, rfl, rfl⟩, rfl⟩
    have := h ρ w { fn := fn, k := [.code c], dst := none, a := { tmps := (⟨args'⟩ : Array Value) ++ Array.replicate (fn.ntmps - (⟨args'⟩ : Array Value).size) undef, defers := [] } } []
      (fun v' w' => ∃ ρ' v H', Q v H' ∧ Ren.le ρ ρ' ∧ Fresh ρ ρ' w ∧ VR ρ' v v' ∧ Rep ρ' H' w' ∧ Keep ρ w w') hr ⟨rfl, by rw [hk], rfl, enter_TR ha hl1 hl.2⟩ (by simp [start, FRL])
      (fun ρ' v v' H' w' hq h1 h2 h3 h4 h5 => ⟨ρ', v, H', hq, Ren.le_trans hcut h1, h2, h3, h4, h5⟩)
    have h2 : c.wp P (topPost P fn [] (fun v' w' => ∃ ρ' v H', Q v H' ∧ Ren.le ρ ρ' ∧ Fresh ρ ρ' w ∧ VR ρ' v v' ∧ Rep ρ' H' w' ∧ Keep ρ w w')) _ w := this
    refine wp_mono h2 ?_
    intro e a w' hq
    cases e with
    | normal =>
      obtain ⟨hd, v, hres, v', he, ρ', u, H', hQ, h1, h2, h3, h4, h5⟩ := hq
      obtain rfl : v = v' := by injection he
      exact ⟨hd, v, hres, ρ', u, v, H', rfl, hQ, h1, h2, h3, h4, h5⟩
    | ret =>
      obtain ⟨hd, v, hres, v', he, ρ', u, H', hQ, h1, h2, h3, h4, h5⟩ := hq
      obtain rfl : v = v' := by injection he
      exact ⟨hd, v, hres, ρ', u, v, H', rfl, hQ, h1, h2, h3, h4, h5⟩
    | panic c => obtain ⟨_, v', he, _⟩ := hq; cases he
    | outgrown => obtain ⟨v', he, _⟩ := hq; cases he
    | exit id => exact hq
    | goto l => exact hq
def H0 : Heap := { m := .nil, next := 0 }
def ρ0 : Ren := ⟨fun _ => none, fun _ => 0, fun _ => false, fun _ => 0, fun _ => 0, fun _ => undef⟩
theorem Rep0 (w : World) : Rep ρ0 H0 w :=
  ⟨by simp [H0, big], fun i b h => by simp [ρ0] at h, fun i j b o h => by simp [H0, Heap.get, Tr.get_nil] at h, fun i o h => by simp [H0, Heap.get, Tr.get_nil] at h, fun i o h => by simp [H0, Heap.get, Tr.get_nil] at h, fun i k g n h => by simp [H0, Heap.get, Tr.get_nil] at h⟩
theorem calls_plain {f : FuncId} {args : List Value} {v : Value} (ha : VRL ρ0 args args) (hv : ∀ ρ v', VR ρ v v' → v' = v) (h : LCalls P f args H0 (fun u _ => u = v)) (w : World) :
    Calls P f ⟨args⟩ w (fun e w' => e = .returned v ∧ Below w.heap.size w w') := by
  refine (h ρ0 args w ha (Rep0 w)).mono ?_
  rintro e w' ⟨ρ', u, v', H', rfl, rfl, _, _, h3, _, h5⟩
  refine ⟨by rw [hv _ _ h3], h5.os, h5.tape, h5.output, h5.size, fun k hk => h5.block k hk (fun i e => by simp [ρ0] at e)⟩
end
end Go.Ly
namespace Go.Ly
def Tr.ofList {α : Type} : List (Nat × α) → Tr α
  | [] => .nil
  | (n, x) :: l => (Tr.ofList l).set n (some x)
theorem Tr.get_ofList {α : Type} {p : Nat → α → Prop} : ∀ (l : List (Nat × α)), (∀ q ∈ l, q.1 < big ∧ p q.1 q.2) → ∀ n x, (Tr.ofList l).get n = some x → p n x
  | [], _, n, x, h => by simp [Tr.ofList, Tr.get_nil] at h
  | (m, y) :: l, hl, n, x, h => by
    have h1 := hl (m, y) (by simp)
    rw [Tr.ofList, Tr.get_set _ _ _ h1.1] at h
    by_cases e : n = m
    · rw [if_pos e] at h; simp at h; subst h e; exact h1.2
    · rw [if_neg e] at h; exact Tr.get_ofList l (fun q hq => hl q (by simp [hq])) n x h
def TyOk (P : Program) (t : TypeId) (i : TI) : Prop := P.underlying t = some i.desc ∧ (∃ j, P.info? t = some j ∧ j.size = i.size ∧ j.zero = i.zero ∧ j.bytes = i.bytes) ∧ (i.eqok = true → P.stoodInHeld t = false ∧ P.eqGuardType P.depth t = false)
def FnOk (P : Program) (f : Nat) (g : Func) : Prop := P.funcs[f]? = some g ∧ g.body.isSome = true ∧ (g.name == "runtime.NumGoroutine") = false
def Each {α : Type} (p : Nat → α → Prop) : List (Nat × α) → Prop
  | [] => True
  | (n, x) :: l => p n x ∧ Each p l
theorem Each.mem {α : Type} {p : Nat → α → Prop} : ∀ {l : List (Nat × α)}, Each p l → (l.all fun q => Nat.blt q.1 2147483000) = true → ∀ q ∈ l, q.1 < big ∧ p q.1 q.2
  | [], _, _, q, h => by cases h
  | (n, x) :: l, h, hb, q, hq => by
    simp only [List.all_cons, Bool.and_eq_true, Nat.blt_eq] at hb
    cases hq with
    | head => exact ⟨hb.1, h.1⟩
    | tail _ hq => exact Each.mem h.2 hb.2 q hq
theorem Env.ok_of {P : Program} {ts : List (Nat × TI)} {fs : List (Nat × Func)} (ht : Each (TyOk P) ts) (hf : Each (FnOk P) fs)
    (h1 : (ts.all fun q => Nat.blt q.1 2147483000) = true) (h2 : (fs.all fun q => Nat.blt q.1 2147483000) = true) (hm : P.follows .mixedOrders = true) :
    Env.Ok { ty := Tr.ofList ts, fn := Tr.ofList fs } P :=
  ⟨fun t i h => Tr.get_ofList ts (Each.mem ht h1) t i h, fun f g h => Tr.get_ofList fs (Each.mem hf h2) f g h, hm⟩
def RO.val? : RO → Option Value
  | .ok [] (.done v _) => some v
  | _ => none
theorem LCalls_run {P : Program} {C : Ctx} (hC : C.Ok P) {f : FuncId} {fn : Func} {args : List Value} {H : Heap} {v : Value} (n : Nat) (hf : C.fn.get f = some fn)
    (hl : (Nat.ble args.length fn.ntmps && Nat.blt fn.ntmps 1000000) = true) (h : (run C n [] (start fn args H)).val? = some v) : LCalls P f args H (fun u _ => u = v) := by
  refine LCalls_of hC hf hl ?_
  cases hr : run C n [] (start fn args H) with
  | no => rw [hr] at h; simp [RO.val?] at h
  | ok t l =>
    rw [hr] at h
    cases t with
    | cons _ _ => simp [RO.val?] at h
    | nil =>
      cases l with
      | halt S => simp [RO.val?] at h
      | done u H' =>
        simp only [RO.val?, Option.some.injEq] at h
        exact run_sound hC n [] _ [] _ hr trivial h
def Env.bare (E : Env) : Ctx := { toEnv := E, con := fun _ _ _ => .no, opq := fun _ => false, hcon := fun _ _ _ => .no }
theorem Env.bare_ok {P : Program} {E : Env} (h : E.Ok P) : E.bare.Ok P := { toOk := h, con := fun _ _ _ _ _ _ _ _ => trivial, hcon := fun _ _ _ => trivial }
def yes : Option Value → Bool
  | some (.bool true) => true
  | _ => false
theorem range_all {p : Nat → Bool} {a k : Nat} (h : ((List.range k).all fun i => p (a + i)) = true) (n : Nat) (h1 : a ≤ n) (h2 : n < a + k) : p n = true := by
  have := List.all_eq_true.1 h (n - a) (List.mem_range.2 (by omega))
  rwa [show a + (n - a) = n by omega] at this
end Go.Ly
namespace Go.Ly
open Go.RowKit
mutual
/-- a value that names no block, all through -/
def plain : Value → Bool
  | .bool _ | .int _ _ | .string _ | .pointer none | .slice none _ _ | .map none | .nilFunc | .nilIface => true
  | .agg ⟨xs⟩ => plainL xs
  | .tuple ⟨xs⟩ => plainL xs
  | _ => false
def plainL : List Value → Bool
  | [] => true
  | v :: r => plain v && plainL r
end
mutual
theorem plain_VR {ρ : Ren} : ∀ (v : Value), plain v = true → VR ρ v v
  | .bool _, _ => by simp [VR]
  | .int _ _, _ => by simp [VR]
  | .string _, _ => by simp [VR]
  | .pointer none, _ => by simp [VR]
  | .pointer (some _), h => by simp [plain] at h
  | .slice none _ _, _ => by simp [VR]
  | .slice (some _) _ _, h => by simp [plain] at h
  | .map none, _ => by simp [VR]
  | .map (some _), h => by simp [plain] at h
  | .func _ _ _, h => by simp [plain] at h
  | .nilFunc, _ => by simp [VR]
  | .iface _ _, h => by simp [plain] at h
  | .nilIface, _ => by simp [VR]
  | .agg ⟨xs⟩, h => by simp only [plain] at h; simp only [VR]; exact ⟨xs, plainL_VR xs h, rfl⟩
  | .tuple ⟨xs⟩, h => by simp only [plain] at h; simp only [VR]; exact ⟨xs, plainL_VR xs h, rfl⟩
  | .float _ _, h => by simp [plain] at h
  | .complex _ _ _, h => by simp [plain] at h
  | .chan _, h => by simp [plain] at h
theorem plainL_VR {ρ : Ren} : ∀ (l : List Value), plainL l = true → VRL ρ l l
  | [], _ => by simp [VRL]
  | v :: r, h => by
    simp only [plainL, Bool.and_eq_true] at h
    simp only [VRL]
    exact ⟨v, r, plain_VR v h.1, plainL_VR r h.2, rfl⟩
end
mutual
theorem plain_rig : ∀ (v : Value), plain v = true → rig v = true
  | .bool _, _ => rfl
  | .int _ _, _ => rfl
  | .string _, _ => rfl
  | .pointer none, _ => rfl
  | .pointer (some _), h => by simp [plain] at h
  | .slice none _ _, _ => rfl
  | .slice (some _) _ _, h => by simp [plain] at h
  | .map none, _ => rfl
  | .map (some _), h => by simp [plain] at h
  | .func _ _ _, h => by simp [plain] at h
  | .nilFunc, _ => rfl
  | .iface _ _, h => by simp [plain] at h
  | .nilIface, _ => rfl
  | .agg ⟨xs⟩, h => by simp only [plain] at h; simp only [rig]; exact plainL_rig xs h
  | .tuple ⟨xs⟩, h => by simp only [plain] at h; simp only [rig]; exact plainL_rig xs h
  | .float _ _, h => by simp [plain] at h
  | .complex _ _ _, h => by simp [plain] at h
  | .chan _, h => by simp [plain] at h
theorem plainL_rig : ∀ (l : List Value), plainL l = true → rigL l = true
  | [], _ => rfl
  | v :: r, h => by
    simp only [plainL, Bool.and_eq_true] at h
    simp only [rigL, Bool.and_eq_true]
    exact ⟨plain_rig v h.1, plainL_rig r h.2⟩
end
theorem plain_eq {ρ : Ren} {v v' : Value} (h : plain v = true) (hv : VR ρ v v') : v' = v := rig_one v (plain_rig v h) v' v hv (plain_VR v h)
theorem plainL_eq {ρ : Ren} {l l' : List Value} (h : plainL l = true) (hv : VRL ρ l l') : l' = l := rigL_one l (plainL_rig l h) l' l hv (plainL_VR l h)
def RO.out? : RO → Option (List (Bool × Bool) × Value)
  | .ok t (.done v _) => some (t, v)
  | _ => none
theorem LCalls_trust {P : Program} {C : Ctx} (hC : C.Ok P) {f : FuncId} {fn : Func} {args : List Value} {H : Heap} {t : List (Bool × Bool)} {v : Value} (n : Nat) (p : Path) (hf : C.fn.get f = some fn)
    (hl : (Nat.ble args.length fn.ntmps && Nat.blt fn.ntmps 1000000) = true) (h : (run C n p (start fn args H)).out? = some (t, v)) (ht : trusted t) : LCalls P f args H (fun u _ => u = v) := by
  refine LCalls_of hC hf hl ?_
  cases hr : run C n p (start fn args H) with
  | no => rw [hr] at h; simp [RO.out?] at h
  | ok t' l =>
    rw [hr] at h
    cases l with
    | halt S => simp [RO.out?] at h
    | done u H' =>
      simp only [RO.out?, Option.some.injEq, Prod.mk.injEq] at h
      obtain ⟨rfl, rfl⟩ := h
      exact run_sound hC n p _ t' _ hr ht rfl
theorem calls_trust {P : Program} {C : Ctx} (hC : C.Ok P) {f : FuncId} {fn : Func} {args : List Value} {t : List (Bool × Bool)} {v : Value} (n : Nat) (p : Path) (hf : C.fn.get f = some fn)
    (hl : (Nat.ble args.length fn.ntmps && Nat.blt fn.ntmps 1000000) = true) (ha : plainL args = true) (hv : plain v = true) (h : (run C n p (start fn args H0)).out? = some (t, v)) (ht : trusted t) (w : World) :
    Calls P f ⟨args⟩ w (fun e w' => e = .returned v ∧ Below w.heap.size w w') :=
  calls_plain (plainL_VR args ha) (fun ρ v' h => plain_eq hv h) (LCalls_trust hC n p hf hl h ht) w
end Go.Ly
namespace Go.Ly
open Go.RowKit
def conAns : Option (Bool × Value) → ER
  | some (g, v) => .tst g (.val v) .no
  | none => .no
def Ctx.with (C : Ctx) (f : Nat) (c : List Value → Option (Bool × Value)) : Ctx := { toEnv := C.toEnv, con := fun g H args => bif Nat.beq g f then conAns (c args) else C.con g H args, opq := fun g => Nat.beq g f || C.opq g, hcon := C.hcon }
def Answers (P : Program) (f : Nat) (c : List Value → Option (Bool × Value)) : Prop := ∀ args g v, c args = some (g, v) → g = true → plainL args = true ∧ plain v = true ∧ ∀ w, Calls P f ⟨args⟩ w (fun e w' => e = .returned v ∧ Below w.heap.size w w')
theorem Ctx.Ok.with {P : Program} {C : Ctx} (h : C.Ok P) {f : Nat} {c : List Value → Option (Bool × Value)} (hc : Answers P f c) : (C.with f c).Ok P := by
  refine { toOk := h.toOk, hcon := h.hcon, con := fun k args ρ args' w H ha hr => ?_ }
  simp only [Ctx.with]
  cases hk : Nat.beq k f with
  | false => exact h.con k args ρ args' w H ha hr
  | true =>
    obtain rfl := Nat.eq_of_beq_eq_true hk
    simp only [cond_true]
    cases hca : c args with
    | none => exact trivial
    | some gv =>
      obtain ⟨g, v⟩ := gv
      refine ⟨fun hg => ?_, fun _ => trivial⟩
      obtain ⟨hp, hv, hw⟩ := hc args g v hca hg
      obtain rfl := plainL_eq hp ha
      exact ⟨v, plain_VR v hv, hw w⟩
mutual
def peq : Value → Value → Bool
  | .bool a, .bool b => a == b
  | .int k a, .int k' b => decide (k = k') && decide (a = b)
  | .agg ⟨xs⟩, .agg ⟨ys⟩ => peqL xs ys
  | .tuple ⟨xs⟩, .tuple ⟨ys⟩ => peqL xs ys
  | _, _ => false
def peqL : List Value → List Value → Bool
  | [], [] => true
  | v :: r, u :: s => peq v u && peqL r s
  | _, _ => false
end
def tok : List (Bool × Bool) → Bool
  | [] => true
  | (b, d) :: r => (b == d) && tok r
theorem byte_all {p : Int → Prop} (h : ∀ n : Fin 256, p (n.val : Int)) (b : Int) (h0 : 0 ≤ b) (h1 : b ≤ 255) : p b := by
  have := h ⟨b.toNat, by omega⟩
  have e : ((b.toNat : Nat) : Int) = b := by omega
  simpa [e] using this
def inb (a : Int) : Bool := decide (0 ≤ a) && decide (a ≤ 255)
theorem inb_iff (a : Int) : inb a = true ↔ 0 ≤ a ∧ a ≤ 255 := by simp [inb]
theorem and128 (b : Int) (h0 : 0 ≤ b) (h1 : b ≤ 255) : (bits .and .u8 b 128 != 0) = decide (128 ≤ b) :=
  byte_all (p := fun b => (bits .and .u8 b 128 != 0) = decide (128 ≤ b)) (by decide +kernel) b h0 h1
theorem and15 (b : Int) (h0 : 0 ≤ b) (h1 : b ≤ 255) : bits .and .u8 b 15 = b % 16 :=
  byte_all (p := fun b => bits .and .u8 b 15 = b % 16) (by decide +kernel) b h0 h1
theorem not8 (b : Int) (h0 : 0 ≤ b) (h1 : b ≤ 255) : bits .xor .u8 (bif IntKind.u8.signed then -1 else IntKind.u8.max) b = 255 - b :=
  byte_all (p := fun b => bits .xor .u8 (bif IntKind.u8.signed then -1 else IntKind.u8.max) b = 255 - b) (by decide +kernel) b h0 h1
theorem fin_all (k : Nat) {p : Int → Prop} (h : ∀ n : Fin k, p (n.val : Int)) (b : Int) (h0 : 0 ≤ b) (h1 : b < k) : p b := by
  have := h ⟨b.toNat, by omega⟩
  have e : ((b.toNat : Nat) : Int) = b := by omega
  simpa [e] using this
theorem and255 (b : Int) (h0 : 0 ≤ b) (h1 : b < 1024) : bits .and .i64 b 255 = b % 256 :=
  fin_all 1024 (p := fun b => bits .and .i64 b 255 = b % 256) (by decide +kernel) b h0 h1
end Go.Ly
namespace Go.Ly
open Go.ChangeShapes Go.WideShapes Go.Deep Go.RowKit
inductive CK where
  | bool
  | int (k : IntKind)
  | str
  | slice (e : List CK)
def flatFs (P : Program) (F : TypeId → Option (List CK)) : Nat → List Field → Option (List CK)
  | _, [] => some []
  | off, f :: fs =>
    match F f.type with
    | none => none
    | some l => bif Nat.beq f.offset off && Nat.beq (P.cellsOf f.type) l.length then
        (match flatFs P F (off + l.length) fs with | some r => some (l ++ r) | none => none)
      else none
def repL (l : List CK) : Nat → List CK
  | 0 => []
  | n + 1 => l ++ repL l n
def flatT (P : Program) : Nat → TypeId → Option (List CK)
  | 0, _ => none
  | f + 1, t =>
    match P.underlying t with
    | some .bool => some [.bool]
    | some (.int k) => some [.int k]
    | some .string => some [.str]
    | some (.slice e) => match flatT P f e with
      | some l => bif Nat.beq (P.cellsOf e) l.length then some [.slice l] else none
      | none => none
    | some (.struct fs) => match flatFs P (flatT P f) 0 fs.toList with
      | some l => bif Nat.beq (P.cellsOf t) l.length then some l else none
      | none => none
    | some (.array n e) => match flatT P f e with
      | some l => bif Nat.beq (P.cellsOf e) l.length && Nat.beq (P.cellsOf t) (n * l.length) then some (repL l n) else none
      | none => none
    | _ => none
mutual
def CkOk (w : World) : CK → Value → Prop
  | .bool, v => ∃ b, v = .bool b
  | .int k, v => ∃ n, v = .int k n ∧ (Lit.int k n).wf = true
  | .str, v => ∃ s : ByteArray, v = .string s ∧ s.size ≤ maxLen
  | .slice e, v => v = .slice none 0 0 ∨ ∃ (a : Addr) (len cap : Nat) (F : Nat → List Value), v = .slice (some a) len cap ∧ len ≤ cap ∧ cap ≤ maxLen ∧
      ∀ i, i < len → (F i).length = e.length ∧ (∀ j, j < e.length → a.block < w.heap.size ∧ a.spot = none ∧ w.cell? (a.add (i * e.length + j)) = (F i)[j]?) ∧ CksOk w e (F i)
def CksOk (w : World) : List CK → List Value → Prop
  | [], l => l = []
  | k :: ks, l => ∃ v r, l = v :: r ∧ CkOk w k v ∧ CksOk w ks r
end
theorem CksOk.length {w : World} : ∀ {ks : List CK} {l : List Value}, CksOk w ks l → l.length = ks.length
  | [], l, h => by simp only [CksOk] at h; subst h; rfl
  | k :: ks, l, h => by
    simp only [CksOk] at h
    obtain ⟨v, r, rfl, _, h2⟩ := h
    simp [CksOk.length h2]
theorem CksOk.append {w : World} : ∀ {ks ks' : List CK} {l l' : List Value}, CksOk w ks l → CksOk w ks' l' → CksOk w (ks ++ ks') (l ++ l')
  | [], ks', l, l', h, h' => by simp only [CksOk] at h; subst h; simpa using h'
  | k :: ks, ks', l, l', h, h' => by
    simp only [CksOk] at h
    obtain ⟨v, r, rfl, h1, h2⟩ := h
    simp only [List.cons_append, CksOk]
    exact ⟨v, _, rfl, h1, CksOk.append h2 h'⟩
section
variable {H : Type} {enc : TypeId × Value → H} {P : Program} {w : World} {base : Nat} {spare : Nat → Bool} {held : Bool}
theorem cell_some {a : Addr} {v : Value} (h : w.cell? a = some v) : a.block < w.heap.size ∧ a.spot = none := by
  unfold World.cell? at h
  split at h
  · rename_i c t f hb
    refine ⟨?_, ?_⟩
    · rcases Nat.lt_or_ge a.block w.heap.size with h' | h'
      · exact h'
      · rw [Array.getElem?_eq_none h'] at hb; cases hb
    · split at h
      · cases h
      · rename_i hs; simpa using hs
  · cases h
theorem add_block (a : Addr) (n : Nat) : (a.add n).block = a.block := by unfold Addr.add; split <;> rfl
theorem flatFs_ok {F : TypeId → Option (List CK)} {n : Nat} {cs : List Value}
    (ih : ∀ t ks cs x, F t = some ks → DataW.trod enc P w base spare held n t cs = some x → CksOk w ks cs) :
    ∀ (fs : List Field) (off : Nat) (ks : List CK), flatFs P F off fs = some ks →
      (∀ f ∈ fs, ∃ x, DataW.trod enc P w base spare held n f.type ((cs.drop f.offset).take (P.cellsOf f.type)) = some x) →
      CksOk w ks ((cs.drop off).take ks.length)
  | [], off, ks, h, _ => by simp only [flatFs, Option.some.injEq] at h; subst h; simp [CksOk]
  | f :: fs, off, ks, h, hf => by
    simp only [flatFs] at h
    cases hF : F f.type with
    | none => rw [hF] at h; simp at h
    | some l =>
      rw [hF] at h; simp only at h
      cases hc : (Nat.beq f.offset off && Nat.beq (P.cellsOf f.type) l.length) with
      | false => rw [hc] at h; simp at h
      | true =>
        rw [hc] at h; simp only [cond_true] at h
        simp only [Bool.and_eq_true] at hc
        have h1 := Nat.eq_of_beq_eq_true hc.1
        have h2 := Nat.eq_of_beq_eq_true hc.2
        cases hr : flatFs P F (off + l.length) fs with
        | none => rw [hr] at h; simp at h
        | some r =>
          rw [hr] at h; simp only [Option.some.injEq] at h; subst h
          obtain ⟨x, hx⟩ := hf f (by simp)
          have hl := ih _ _ _ _ hF hx
          rw [h1, h2] at hl
          have hr' := flatFs_ok ih fs (off + l.length) r hr (fun g hg => hf g (by simp [hg]))
          have hlen := hl.length
          have hlen' := hr'.length
          rw [List.length_append, List.take_add, List.drop_drop]
          exact hl.append hr'
theorem repL_ok {l : List CK} {cs : List Value} : ∀ (n off : Nat), (∀ i, i < n → CksOk w l ((cs.drop (off + i * l.length)).take l.length)) → CksOk w (repL l n) ((cs.drop off).take (n * l.length))
  | 0, off, _ => by simp [repL, CksOk]
  | n + 1, off, h => by
    have h0 := h 0 (by omega)
    rw [Nat.zero_mul, Nat.add_zero] at h0
    have hr := repL_ok n (off + l.length) (fun i hi => by
      have := h (i + 1) (by omega)
      rwa [show off + (i + 1) * l.length = off + l.length + i * l.length by rw [Nat.add_mul]; omega] at this)
    rw [show (n + 1) * l.length = l.length + n * l.length by rw [Nat.add_mul]; omega, List.take_add, List.drop_drop]
    exact h0.append hr
theorem flatT_ok : ∀ (f : Nat) (t : TypeId) (ks : List CK) (n : Nat) (cs : List Value) (x : DataW H × List MemPlace), flatT P f t = some ks → DataW.trod enc P w base spare held n t cs = some x → CksOk w ks cs
  | 0, t, ks, n, cs, x, h, _ => by simp [flatT] at h
  | f + 1, t, ks, n, cs, x, h, ht => by
    simp only [flatT] at h
    split at h
    · rename_i hu
      simp only [Option.some.injEq] at h; subst h
      obtain ⟨b, rfl, _⟩ := DataW.trod_bool hu ht
      simp only [CksOk]
      exact ⟨_, [], rfl, by simp only [CkOk]; exact ⟨b, rfl⟩, rfl⟩
    · rename_i k hu
      simp only [Option.some.injEq] at h; subst h
      obtain ⟨m, rfl, _, hw⟩ := DataW.trod_int hu ht
      simp only [CksOk]
      exact ⟨_, [], rfl, by simp only [CkOk]; exact ⟨m, rfl, hw⟩, rfl⟩
    · rename_i hu
      simp only [Option.some.injEq] at h; subst h
      obtain ⟨s, rfl, _, hw⟩ := DataW.trod_string hu ht
      simp only [CksOk]
      exact ⟨_, [], rfl, by simp only [CkOk]; exact ⟨s, rfl, hw⟩, rfl⟩
    · rename_i e hu
      cases hl : flatT P f e with
      | none => rw [hl] at h; simp at h
      | some l =>
        rw [hl] at h; simp only at h
        cases hc : Nat.beq (P.cellsOf e) l.length with
        | false => rw [hc] at h; simp at h
        | true =>
          rw [hc] at h; simp only [cond_true, Option.some.injEq] at h; subst h
          have hc' := Nat.eq_of_beq_eq_true hc
          simp only [CksOk]
          rcases open_slice hu ht with ⟨rfl, _⟩ | ⟨a, len, cap, m, q, D, Pl, rfl, _, hlc, hcap, hm, _, hel⟩
          · exact ⟨_, [], rfl, by simp only [CkOk]; exact .inl trivial, rfl⟩
          · refine ⟨_, [], rfl, ?_, rfl⟩
            simp only [CkOk]
            right
            have hlen : len ≤ m := by rw [hm]; split <;> omega
            have hch : ∀ i, i < len → ∃ cs', cs'.length = l.length ∧ (∀ j, j < l.length → a.block < w.heap.size ∧ a.spot = none ∧ w.cell? (a.add (i * l.length + j)) = cs'[j]?) ∧ CksOk w l cs' := by
              intro i hi
              obtain ⟨cs', h1, h2⟩ := hel i (by omega)
              rw [hc'] at h1
              obtain ⟨_, hcl, hat⟩ := World.cells?_some h1
              refine ⟨cs', hcl, fun j hj => ?_, flatT_ok f e l q cs' _ hl h2⟩
              have hcell := hat j hj
              rw [Go.Deep.add_add] at hcell
              have hsome : w.cell? (a.add (i * l.length + j)) = some (cs'[j]'(by omega)) := by rw [hcell, List.getElem?_eq_getElem (by omega)]
              obtain ⟨g1, _⟩ := cell_some hsome
              rw [add_block] at g1
              obtain ⟨cs0, k1, _⟩ := hel 0 (by omega)
              rw [hc'] at k1
              obtain ⟨_, kcl, kat⟩ := World.cells?_some k1
              have kc := kat 0 (by omega)
              rw [Nat.zero_mul, List.getElem?_eq_getElem (by omega)] at kc
              have kz : (a.add 0).add 0 = a := by simp [Addr.add]
              rw [kz] at kc
              exact ⟨g1, (cell_some kc).2, hcell⟩
            obtain ⟨F, hF⟩ := choose_lt hch
            exact ⟨a, len, cap, F, rfl, hlc, hcap, hF⟩
    · rename_i fs hu
      cases hl : flatFs P (flatT P f) 0 fs.toList with
      | none => rw [hl] at h; simp at h
      | some l =>
        rw [hl] at h; simp only at h
        cases hc : Nat.beq (P.cellsOf t) l.length with
        | false => rw [hc] at h; simp at h
        | true =>
          rw [hc] at h; simp only [cond_true, Option.some.injEq] at h; subst h
          have hc' := Nat.eq_of_beq_eq_true hc
          obtain ⟨xs, q, _, _, hcl, hxl, hf⟩ := DataW.trod_struct hu ht
          have := flatFs_ok (w := w) (cs := cs) (fun t ks cs x h1 h2 => flatT_ok f t ks q cs x h1 h2) fs.toList 0 l hl (fun g hg => by
            obtain ⟨i, hi, rfl⟩ := List.getElem_of_mem hg
            have hi' : i < fs.size := by simpa using hi
            have h1 := hf i (fs.toList[i]) (by simp [hi'])
            rw [List.getElem?_eq_getElem (by omega)] at h1
            exact ⟨_, h1⟩)
          rw [List.drop_zero, List.take_of_length_le (by omega)] at this
          exact this
    · rename_i m e hu
      cases hl : flatT P f e with
      | none => rw [hl] at h; simp at h
      | some l =>
        rw [hl] at h; simp only at h
        cases hc : (Nat.beq (P.cellsOf e) l.length && Nat.beq (P.cellsOf t) (m * l.length)) with
        | false => rw [hc] at h; simp at h
        | true =>
          rw [hc] at h; simp only [cond_true, Option.some.injEq] at h; subst h
          simp only [Bool.and_eq_true] at hc
          have hc1 := Nat.eq_of_beq_eq_true hc.1
          have hc2 := Nat.eq_of_beq_eq_true hc.2
          obtain ⟨xs, q, _, _, hcl, hxl, hf⟩ := DataW.trod_array hu ht
          have := repL_ok (w := w) (l := l) (cs := cs) m 0 (fun i hi => by
            have h1 := hf i hi
            rw [List.getElem?_eq_getElem (by omega), hc1] at h1
            rw [Nat.zero_add]
            exact flatT_ok f e l q _ _ hl h1)
          rw [List.drop_zero, List.take_of_length_le (by omega)] at this
          exact this
    · simp at h
def isAggT (P : Program) (t : TypeId) : Bool := match P.underlying t with | some (.struct _) | some (.array _ _) => true | _ => false
theorem open_agg {r : Reach} {b0 : Nat} {t : TypeId} {v : Value} {d : DataW H} {p : List MemPlace} {ks : List CK} (hf : flatT P 9 t = some ks) (ha : isAggT P t = true)
    (hv : Value.okWide P w r b0 t v) (h : DataW.Trod enc P w base spare held t v d p) : ∃ cs, v = .agg ⟨cs⟩ ∧ CksOk w ks cs := by
  have hv' : ∃ cs, v = .agg cs := by
    unfold isAggT at ha
    unfold Value.okWide at hv
    split at ha
    · rename_i fs hu; rw [hu] at hv; obtain ⟨cs, h1, _⟩ := hv; exact ⟨cs, h1⟩
    · rename_i m e hu; rw [hu] at hv; obtain ⟨cs, h1, _⟩ := hv; exact ⟨cs, h1⟩
    · cases ha
  obtain ⟨cs, rfl⟩ := hv'
  obtain ⟨fuel, hx⟩ := h
  exact ⟨cs.toList, rfl, flatT_ok 9 t ks fuel _ _ hf hx⟩
end
end Go.Ly
namespace Go.Ly
open Go.RowKit
section
variable {P : Program}
structure Fits (σ : Nat → Nat) (Hs H : Heap) : Prop where
  small : Hs.next < big
  lock : H.lock = 0
  full : ∀ i, i < Hs.next → ∃ o, Hs.get i = some o
  dom : ∀ i o, Hs.get i = some o → i < Hs.next
  lie : ∀ i o, Hs.get i = some o → H.get (σ i) = some (renO (ext σ Hs.next H.next) o)
  inj : ∀ i j, i < Hs.next → j < Hs.next → σ i = σ j → i = j
structure Merged (σ : Nat → Nat) (Hs H Hs' H' : Heap) : Prop where
  lock : Hs'.lock = 0
  le : Hs.next ≤ Hs'.next
  next : H.next + (Hs'.next - Hs.next) ≤ H'.next
  small : H'.next < big
  obj : ∀ k o, H'.get k = some o → (∃ i os, ext σ Hs.next H.next i = k ∧ Hs'.get i = some os ∧ o = renO (ext σ Hs.next H.next) os) ∨
    ((∀ i, i < Hs.next → σ i ≠ k) ∧ H.get k = some o)
theorem LCalls.frame {f : FuncId} {args : List Value} {Hs H : Heap} {Qs Q : Value → Heap → Prop} {σ : Nat → Nat} (h : LCalls P f args Hs Qs) (hfit : Fits σ Hs H)
    (hQ : ∀ vs Hs', Qs vs Hs' → ∃ H', Merged σ Hs H Hs' H' ∧ Q (renV (ext σ Hs.next H.next) vs) H') : LCalls P f (renL (ext σ Hs.next H.next) args) H Q := by
  intro ρ args' w ha hr
  have ha' := (VRL_ren args args').1 ha
  generalize hσ : ext σ Hs.next H.next = τ at *
  have lie : ∀ i o, Hs.get i = some o → H.get (σ i) = some (renO τ o) := fun i o h => by rw [← hσ]; exact hfit.lie i o h
  have tlt : ∀ i, i < Hs.next → τ i = σ i := fun i hi => by rw [← hσ]; exact ext_lt hi
  have tge : ∀ i, Hs.next ≤ i → τ i = H.next + (i - Hs.next) := fun i hi => by rw [← hσ]; exact ext_ge hi
  have hnone : ∀ i, Hs.next ≤ i → (ρ.comp τ) i = none := fun i hi => by
    show ρ (τ i) = none
    rw [tge i hi]; exact hr.none_next (by omega)
  have hrs : Rep (ρ.comp τ) Hs w := by
    refine ⟨hfit.small, fun i b hb => ?_, fun i j b o hi hown hj h1 h2 => ?_, hfit.dom, fun i o ho hown => ?_, fun i k g n ho => ?_⟩
    · have hi : i < Hs.next := by
        rcases Nat.lt_or_ge i Hs.next with h1 | h1
        · exact h1
        · rw [hnone i h1] at hb; cases hb
      exact ⟨hi, (hr.dom _ _ hb).2⟩
    · have hi' := hfit.dom i o hi
      obtain ⟨oj, hoj⟩ := Option.isSome_iff_exists.1 hj
      have hj' := hfit.dom j oj hoj
      have e := hr.inj (σ i) (σ j) b (renO τ o) (lie i o hi) (by rw [own_ren]; exact hown) (by rw [lie j oj hoj]; rfl) (by rw [← tlt i hi']; exact h1) (by rw [← tlt j hj']; exact h2)
      exact hfit.inj i j hi' hj' e
    · have hi' := hfit.dom i o ho
      have hro := hr.ro0 hfit.lock (lie i o ho) (by rw [own_ren]; exact hown)
      obtain ⟨_, b, o', hb, hw, hor⟩ := hr.obj _ _ (lie i o ho) (by rw [own_ren]; exact hown)
      rw [← tlt i hi'] at hro hb hor
      exact ⟨fun _ => hro, b, o', hb, hw, (OR_ren o o').1 hor⟩
    · have hi' := hfit.dom i _ ho
      obtain ⟨hro, har⟩ := hr.arg _ _ _ _ (lie i _ ho)
      rw [← tlt i hi'] at hro har
      exact ⟨hro, AR_ren.1 har⟩
  refine (h (ρ.comp τ) args' w ha' hrs).mono ?_
  rintro e w' ⟨ρs', vs, v', Hs', rfl, hq, hle, hfr, hv, hrs', hkeep⟩
  obtain ⟨H', hm, hQ'⟩ := hQ vs Hs' hq
  have hobj : ∀ k o, H'.get k = some o → (∃ i os, τ i = k ∧ Hs'.get i = some os ∧ o = renO τ os) ∨ ((∀ i, i < Hs.next → σ i ≠ k) ∧ H.get k = some o) := by
    intro k o ho
    have := hm.obj k o ho
    rwa [hσ] at this
  have σlt : ∀ i, i < Hs.next → σ i < H.next := fun i hi => by
    obtain ⟨o, ho⟩ := hfit.full i hi
    exact hr.lt (lie i o ho)
  -- numbers of the greater heap that had no block, and are numbers of the small one
  let back : Nat → Option Nat := fun k => if k < H.next then (if (ρ k).isSome then none else (List.range Hs.next).find? (fun i => σ i == k)) else some (Hs.next + (k - H.next))
  have back_some : ∀ k i, back k = some i → τ i = k := by
    intro k i h
    simp only [back] at h
    split at h
    · split at h
      · cases h
      · have h1 := List.find?_some h
        have h2 := List.mem_of_find?_eq_some h
        rw [tlt i (List.mem_range.1 h2)]; simpa using h1
    · simp only [Option.some.injEq] at h
      subst h; rw [tge _ (by omega)]; omega
  have back_tau : ∀ i, (ρ (τ i)).isSome = false → back (τ i) = some i := by
    intro i hn
    simp only [back]
    rcases Nat.lt_or_ge i Hs.next with hi | hi
    · rw [tlt i hi] at hn ⊢
      rw [if_pos (σlt i hi), if_neg (by rw [hn]; simp)]
      cases hf : (List.range Hs.next).find? (fun j => σ j == σ i) with
      | none =>
        have := List.find?_eq_none.1 hf i (List.mem_range.2 hi)
        simp at this
      | some j =>
        have h1 := List.find?_some hf
        have h2 := List.mem_of_find?_eq_some hf
        have : j = i := hfit.inj j i (List.mem_range.1 h2) hi (by simpa using h1)
        rw [this]
    · rw [tge i hi]
      rw [if_neg (by omega)]
      congr 1; omega
  have back_ge : ∀ k, H.next ≤ k → back k = some (Hs.next + (k - H.next)) := fun k hk => if_neg (by omega)
  have back_old : ∀ k b, ρ k = some b → back k = none := by
    intro k b hb
    simp only [back]
    rw [if_pos (hr.dom k b hb).1, if_pos (by rw [hb]; rfl)]
  let ρ' : Ren := ⟨fun k => match back k with | some i => ρs' i | none => ρ k, fun k => match back k with | some i => ρs'.cap i | none => ρ.cap k, fun k => match back k with | some i => ρs'.ro i | none => ρ.ro k,
    fun k => match back k with | some i => ρs'.off i | none => ρ.off k, fun k => match back k with | some i => ρs'.wd i | none => ρ.wd k, ρ.tok⟩
  have viaB : ∀ k i, back k = some i → (ρ' k = ρs' i ∧ ρ'.cap k = ρs'.cap i ∧ ρ'.ro k = ρs'.ro i ∧ ρ'.off k = ρs'.off i ∧ ρ'.wd k = ρs'.wd i) := by
    intro k i h
    simp only [ρ', h, and_self]
  have viaN : ∀ k, back k = none → Ren.same ρ ρ' k := by
    intro k h
    refine ⟨?_, ?_, ?_, ?_, ?_⟩ <;> simp only [ρ', h]
  have old : ∀ k b, ρ k = some b → Ren.same ρ ρ' k := fun k b hb => viaN k (back_old k b hb)
  -- under the small numbers it is the small heap's
  have hsame : ∀ i, Ren.same ρs' (ρ'.comp τ) i := by
    intro i
    cases hb : ρ (τ i) with
    | some b0 =>
      have h1 := hle i b0 hb
      have h2 := old (τ i) b0 hb
      exact ⟨h2.b.trans h1.b.symm, h2.cap.trans h1.cap.symm, h2.ro.trans h1.ro.symm, h2.off.trans h1.off.symm, h2.wd.trans h1.wd.symm⟩
    | none =>
      have h1 := viaB (τ i) i (back_tau i (by rw [hb]; rfl))
      exact ⟨h1.1, h1.2.1, h1.2.2.1, h1.2.2.2.1, h1.2.2.2.2⟩
  have hles : Ren.le ρs' (ρ'.comp τ) := ⟨fun i b _ => hsame i, hle.tok.symm⟩
  have hle' : Ren.le ρ ρ' := ⟨old, rfl⟩
  have hfresh : Fresh ρ ρ' w := by
    intro k b hb
    cases hk : back k with
    | none =>
      have hs := viaN k hk
      exact .inr ⟨k, by rw [← hs.b]; exact hb, fun e => by rw [← hs.ro]; exact e⟩
    | some i =>
      obtain ⟨e1, _, e3, _⟩ := viaB k i hk
      rw [e1] at hb
      rcases hfr i b hb with h1 | ⟨j, h1, h2⟩
      · exact .inl h1
      · exact .inr ⟨τ j, h1, fun e => h2 (by rw [← e3]; exact e)⟩
  have hkeep' : Keep ρ w w' := ⟨hkeep.os, hkeep.tape, hkeep.output, hkeep.size, fun k hk hi => hkeep.block k hk (fun i e => hi (τ i) e)⟩
  have hv' : VR ρ' (renV τ vs) v' := (VR_ren vs v').2 (VR.mono hles vs v' hv)
  -- a block that the call was told of, and is one's own, stands under no other number
  have apart : ∀ k o b j, H.get k = some o → (∀ i, i < Hs.next → σ i ≠ k) → ρ k = some b → (ρ.comp τ) j = some b → (o.own = true ∨ ρ.ro (τ j) = false) → False := by
    intro k o b j hk hn hb hj hor
    have hj' : j < Hs.next := by
      rcases Nat.lt_or_ge j Hs.next with h5 | h5
      · exact h5
      · rw [hnone j h5] at hj; cases hj
    obtain ⟨oj, hoj⟩ := hfit.full j hj'
    have hl := lie j oj hoj
    have hj2 : ρ (σ j) = some b := by rw [← tlt j hj']; exact hj
    rcases hor with ho | ho
    · exact hn j hj' (hr.inj k (σ j) b o hk ho (by rw [hl]; rfl) hb hj2).symm
    · have hown : (renO τ oj).own = true := by
        rcases LO.arg_or (renO τ oj) with h1 | ⟨a1, a2, a3, h1⟩
        · exact h1
        · rw [h1] at hl
          have := (hr.arg _ _ _ _ hl).1
          rw [tlt j hj'] at ho
          rw [ho] at this; cases this
      exact hn j hj' (hr.inj (σ j) k b _ hl hown (by rw [hk]; rfl) hj2 hb)
  refine ⟨ρ', renV τ vs, v', H', rfl, hQ', hle', hfresh, hv', ⟨hm.small, ?_, ?_, ?_, ?_, ?_⟩, hkeep'⟩
  · intro k b hb
    have hnx := hm.next
    have hml := hm.le
    cases hk : back k with
    | none =>
      have hb' : ρ k = some b := by rw [← (viaN k hk).b]; exact hb
      have := hr.dom k b hb'
      exact ⟨by omega, Nat.lt_of_lt_of_le this.2 hkeep.size⟩
    | some i =>
      rw [(viaB k i hk).1] at hb
      have hd := hrs'.dom i b hb
      refine ⟨?_, hd.2⟩
      rcases Nat.lt_or_ge k H.next with h1 | h1
      · omega
      · rw [back_ge k h1] at hk
        simp only [Option.some.injEq] at hk; omega
  · intro k1 k2 b o1 h1 hown h2 hb1 hb2
    obtain ⟨o2, h2'⟩ := Option.isSome_iff_exists.1 h2
    have toS : ∀ i, ρ' (τ i) = ρs' i := fun i => (hsame i).b
    have oldb : ∀ k o, (∀ i, i < Hs.next → σ i ≠ k) → H.get k = some o → back k = none := by
      intro k o hn hk
      cases hbk : back k with
      | none => rfl
      | some i =>
        exfalso
        have hlt := hr.lt hk
        have e := back_some k i hbk
        rcases Nat.lt_or_ge i Hs.next with hi | hi
        · rw [tlt i hi] at e; exact hn i hi e
        · rw [tge i hi] at e; omega
    rcases hobj k1 o1 h1 with ⟨i1, os1, rfl, g1, rfl⟩ | ⟨n1, g1⟩
    · have c1 : ρs' i1 = some b := by rw [← toS i1]; exact hb1
      rw [own_ren] at hown
      rcases hobj k2 o2 h2' with ⟨i2, os2, rfl, g2, rfl⟩ | ⟨n2, g2⟩
      · have c2 : ρs' i2 = some b := by rw [← toS i2]; exact hb2
        rw [hrs'.inj i1 i2 b os1 g1 hown (by rw [g2]; rfl) c1 c2]
      · exfalso
        have hb2' : ρ k2 = some b := by rw [← (viaN k2 (oldb k2 o2 n2 g2)).b]; exact hb2
        rcases hfr i1 b c1 with h3 | ⟨j, h3, h4⟩
        · have := (hr.dom k2 b hb2').2; omega
        · exact apart k2 o2 b j g2 n2 hb2' h3 (.inr (h4 (hrs'.ro0 hm.lock g1 hown)))
    · have hb1' : ρ k1 = some b := by rw [← (viaN k1 (oldb k1 o1 n1 g1)).b]; exact hb1
      rcases hobj k2 o2 h2' with ⟨i2, os2, rfl, g2, rfl⟩ | ⟨n2, g2⟩
      · exfalso
        have c2 : ρs' i2 = some b := by rw [← toS i2]; exact hb2
        rcases hfr i2 b c2 with h3 | ⟨j, h3, h4⟩
        · have := (hr.dom k1 b hb1').2; omega
        · exact apart k1 o1 b j g1 n1 hb1' h3 (.inl hown)
      · have hb2' : ρ k2 = some b := by rw [← (viaN k2 (oldb k2 o2 n2 g2)).b]; exact hb2
        exact hr.inj k1 k2 b o1 g1 hown (by rw [g2]; rfl) hb1' hb2'
  · intro k o ho
    have hnx := hm.next
    have hml := hm.le
    rcases hobj k o ho with ⟨i, os, e, g, rfl⟩ | ⟨n, g⟩
    · have := hrs'.lt g
      rcases Nat.lt_or_ge i Hs.next with hi | hi
      · rw [tlt i hi] at e; have := σlt i hi; omega
      · rw [tge i hi] at e; omega
    · have := hr.lt g; omega
  · intro k o ho hown
    rcases hobj k o ho with ⟨i, os, rfl, g, rfl⟩ | ⟨n, g⟩
    · rw [own_ren] at hown
      have hro := hrs'.ro0 hm.lock g hown
      obtain ⟨_, b, o', hb, hw, hor⟩ := hrs'.obj i os g hown
      have hs := hsame i
      exact ⟨fun _ => hs.ro.trans hro, b, o', hs.b.trans hb, hw, (OR_ren os o').2 (OR.mono hles hs.cap hs.off hs.wd os o' hor)⟩
    · have hro := hr.ro0 hfit.lock g hown
      obtain ⟨_, b, o', hb, hw, hor⟩ := hr.obj k o g hown
      have hs := old k b hb
      refine ⟨fun _ => hs.ro.trans hro, b, o', hs.b.trans hb, ?_, OR.mono hle' hs.cap hs.off hs.wd o o' hor⟩
      rw [hkeep.block b (hr.dom k b hb).2 (fun i e => (apart k o b i g n hb e (.inl hown)).elim)]
      exact hw
  · intro k k' gg nn ho
    rcases hobj k _ ho with ⟨i, os, rfl, g, e⟩ | ⟨n, g⟩
    · cases os with
      | arg q1 q2 q3 =>
        simp only [renO, LO.arg.injEq] at e
        obtain ⟨rfl, rfl, rfl⟩ := e
        obtain ⟨hro, har⟩ := hrs'.arg i _ _ _ g
        have hs := hsame i
        exact ⟨hs.ro.trans hro, AR_ren.2 (har.mono hles hs.wd)⟩
      | _ => simp [renO] at e
    · obtain ⟨hro, har⟩ := hr.arg k _ _ _ g
      have hbk : back k = none := by
        cases hbk : back k with
        | none => rfl
        | some i =>
          exfalso
          have hlt := hr.lt g
          have e := back_some k i hbk
          rcases Nat.lt_or_ge i Hs.next with hi | hi
          · rw [tlt i hi] at e; exact n i hi e
          · rw [tge i hi] at e; omega
      have hs := viaN k hbk
      refine ⟨hs.ro.trans hro, (har.world (fun b hb => ?_)).mono hle' hs.wd⟩
      refine hkeep.block b (hr.dom k b hb).2 (fun i e => ?_)
      cases hro2 : (ρ.comp τ).ro i with
      | true => rfl
      | false => exact (apart k _ b i g n hb e (.inr hro2)).elim
end
end Go.Ly
namespace Go.Ly
open Go.RowKit
def RO.trust : RO → List (Bool × Bool)
  | .ok t _ => t
  | .no => []
def RO.isHalt : RO → Bool
  | .ok _ (.halt _) => true
  | _ => false
def RO.st (d : St) : RO → St
  | .ok _ (.halt S) => S
  | _ => d
def RO.end? : RO → Option (List (Bool × Bool) × Value × Heap)
  | .ok t (.done v H) => bif Nat.beq H.lock 0 then some (t, v, H) else none
  | _ => none
theorem RO.end_lock {r : RO} {t : List (Bool × Bool)} {v : Value} {H : Heap} (h : r.end? = some (t, v, H)) : H.lock = 0 := by
  unfold RO.end? at h
  split at h
  · rename_i t' v' K
    cases hb : Nat.beq K.lock 0 with
    | false => rw [hb] at h; cases h
    | true =>
      rw [hb] at h; simp only [cond_true, Option.some.injEq, Prod.mk.injEq] at h
      obtain ⟨_, _, rfl⟩ := h
      exact Nat.eq_of_beq_eq_true hb
  · cases h
section
variable {P : Program} {C : Ctx} {Q : Value → Heap → Prop}
theorem MWp.seg (hC : C.Ok P) {S d : St} {t : List (Bool × Bool)} (n : Nat) (p : Path) (h : (run C n p S).isHalt = true) (ht : (run C n p S).trust = t) (htr : trusted t) (hs : MWp P ((run C n p S).st d) Q) : MWp P S Q := by
  cases hr : run C n p S with
  | no => rw [hr] at h; simp [RO.isHalt] at h
  | ok t' l =>
    rw [hr] at h ht hs
    cases l with
    | done v H => simp [RO.isHalt] at h
    | halt S' =>
      simp only [RO.trust] at ht; subst ht
      exact run_sound hC n p S _ _ hr htr hs
theorem MWp.done (hC : C.Ok P) {S : St} {t : List (Bool × Bool)} {v : Value} {H : Heap} (n : Nat) (p : Path) (h : (run C n p S).end? = some (t, v, H)) (htr : trusted t) (hq : Q v H) : MWp P S Q := by
  cases hr : run C n p S with
  | no => rw [hr] at h; simp [RO.end?] at h
  | ok t' l =>
    rw [hr] at h
    cases l with
    | halt S' => simp [RO.end?] at h
    | done u K =>
      simp only [RO.end?] at h
      cases hb : Nat.beq K.lock 0 with
      | false => rw [hb] at h; cases h
      | true =>
      rw [hb] at h
      simp only [cond_true, Option.some.injEq, Prod.mk.injEq] at h
      obtain ⟨rfl, rfl, rfl⟩ := h
      exact run_sound hC n p S _ _ hr htr hq
theorem MWp.out (hC : C.Ok P) {S : St} {t : List (Bool × Bool)} {v : Value} (n : Nat) (p : Path) (h : (run C n p S).out? = some (t, v)) (htr : trusted t) (hq : ∀ H, Q v H) : MWp P S Q := by
  cases hr : run C n p S with
  | no => rw [hr] at h; simp [RO.out?] at h
  | ok t' l =>
    rw [hr] at h
    cases l with
    | halt S' => simp [RO.out?] at h
    | done u K =>
      simp only [RO.out?, Option.some.injEq, Prod.mk.injEq] at h
      obtain ⟨rfl, rfl⟩ := h
      exact run_sound hC n p S _ _ hr htr (hq K)
theorem MWp.mono {S : St} {Q' : Value → Heap → Prop} (h : MWp P S Q) (hq : ∀ v H, Q v H → Q' v H) : MWp P S Q' :=
  fun ρ w g gs R hr hf hfs hR => h ρ w g gs R hr hf hfs (fun ρ' v v' H' w' q => hR ρ' v v' H' w' (hq v H' q))
theorem LCalls.mono {f : FuncId} {args : List Value} {H : Heap} {Q' : Value → Heap → Prop} (h : LCalls P f args H Q) (hq : ∀ v H, Q v H → Q' v H) : LCalls P f args H Q' := by
  intro ρ args' w ha hr
  refine (h ρ args' w ha hr).mono ?_
  rintro e w' ⟨ρ', v, v', H', h1, h2, h3⟩
  exact ⟨ρ', v, v', H', h1, hq v H' h2, h3⟩
end
def mkSt (fn : Func) (k : List KI) (dst : Option Tmp) (base : Nat) (vals : List Value) (os : List (Option LO)) : St := { top := { fn := fn, t := trArgs vals 0 .nil, k := k, dst := dst }, rest := [], H := mkH os, base := base }
def colVals (keep L : List Nat) (n : Nat) (t : Tr Value) : List Value := (List.range n).map fun i => bif memB keep i then renV (posOf L) ((t.get i).getD undef) else anyV
def colObjs (L : List Nat) (H : Heap) : List (Option LO) := L.map fun b => match H.get b with | some o => some (colO L o) | none => none
def collect (keep L : List Nat) (S : St) : St := mkSt S.top.fn S.top.k S.top.dst S.base (colVals keep L S.top.fn.ntmps S.top.t) (colObjs L S.H)
def colB (keep L : List Nat) (S : St) : Bool :=
  Nat.beq S.H.lock 0 && (S.rest.isEmpty && (nodupB L && (Nat.ble S.base L.length && (Nat.blt L.length 1000000 && (Nat.blt S.top.fn.ntmps 1000000 &&
    (((List.range S.base).all fun i => Nat.beq (L.getD i 1000000) i) && (((List.range S.top.fn.ntmps).all fun i => bif memB keep i then blks (memB L) ((S.top.t.get i).getD undef) else true) &&
      (L.all fun b => match S.H.get b with | some o => colOB L o | none => true))))))))
theorem calls_blind {P : Program} {f : FuncId} {args args0 : List Value} {L : List Nat} {v : Value} (hL : L.length < 1000) (h : LCalls P f args0 (mkH (L.map fun _ => none)) (fun u _ => u = v)) (hv : plain v = true)
    (hb : blksL (memB L) args = true) (he : renL (posOf L) args = args0) {ρ : Ren} {args' : List Value} {w : World} {H : Heap} (ha : VRL ρ args args') (hr : Rep ρ H w) :
    Calls P f ⟨args'⟩ w (fun e w' => e = .returned v ∧ Below w.heap.size w w') := by
  have h1 := VRL_via args args' hb ha
  rw [he] at h1
  have hlen : (L.map fun _ => (none : Option LO)).length < big := by simp [big]; omega
  have hget : ∀ j, (mkH (L.map fun _ => none)).get j = none := by
    intro j
    rw [mkH_get _ hlen]
    simp only [List.getElem?_map]
    cases L[j]? <;> rfl
  let ρ' : Ren := ⟨(ρ.via L).b, (ρ.via L).cap, fun _ => true, (ρ.via L).off, (ρ.via L).wd, ρ.tok⟩
  have h2 : VRL ρ' args0 args' := VRL.monoV (ρ := ρ.via L) (ρ' := ρ') ⟨fun i b _ => ⟨rfl, rfl, rfl, rfl⟩, rfl⟩ _ _ h1
  have hrep : Rep ρ' (mkH (L.map fun _ => none)) w := by
    refine ⟨by simp [mkH, big]; omega, fun i b hb => ?_, fun i j b o hi => (by rw [hget] at hi; cases hi), fun i o ho => (by rw [hget] at ho; cases ho), fun i o ho => (by rw [hget] at ho; cases ho), fun i k g n ho => (by rw [hget] at ho; cases ho)⟩
    have hb' : (ρ.via L) i = some b := hb
    simp only [Ren.via] at hb'
    cases hL' : L[i]? with
    | none => rw [hL'] at hb'; simp at hb'
    | some x =>
      rw [hL'] at hb'; simp only [Option.bind_some] at hb'
      exact ⟨by have := (List.getElem?_eq_some_iff.1 hL').1; simpa [mkH] using this, (hr.dom x b hb').2⟩
  refine (h ρ' args' w h2 hrep).mono ?_
  rintro e w' ⟨ρ2, u, u', H', rfl, rfl, _, _, h3, _, h5⟩
  exact ⟨by rw [plain_eq hv h3], h5.os, h5.tape, h5.output, h5.size, fun k hk => h5.block k hk (fun _ _ => rfl)⟩
def AnswersR (P : Program) (f : Nat) (c : List Value → Option (Bool × Value)) : Prop := ∀ args g v, c args = some (g, v) → g = true → plain v = true ∧ ∀ (ρ : Ren) (args' : List Value) (w : World) (H : Heap), VRL ρ args args' → Rep ρ H w → Calls P f ⟨args'⟩ w (fun e w' => e = .returned v ∧ Below w.heap.size w w')
theorem Ctx.Ok.withR {P : Program} {C : Ctx} (h : C.Ok P) {f : Nat} {c : List Value → Option (Bool × Value)} (hc : AnswersR P f c) : (C.with f c).Ok P := by
  refine { toOk := h.toOk, hcon := h.hcon, con := fun k args ρ args' w H ha hr => ?_ }
  simp only [Ctx.with]
  cases hk : Nat.beq k f with
  | false => exact h.con k args ρ args' w H ha hr
  | true =>
    obtain rfl := Nat.eq_of_beq_eq_true hk
    simp only [cond_true]
    cases hca : c args with
    | none => exact trivial
    | some gv =>
      obtain ⟨g, v⟩ := gv
      refine ⟨fun hg => ?_, fun _ => trivial⟩
      obtain ⟨hv, hw⟩ := hc args g v hca hg
      exact ⟨v, plain_VR v hv, hw ρ args' w H ha hr⟩
def Ctx.withC (C : Ctx) (f : Nat) (c : Heap → List Value → ER) : Ctx := { toEnv := C.toEnv, con := fun g H args => bif Nat.beq g f then c H args else C.con g H args, opq := fun g => Nat.beq g f || C.opq g, hcon := C.hcon }
theorem Ctx.Ok.withC {P : Program} {C : Ctx} (h : C.Ok P) {f : Nat} {c : Heap → List Value → ER} (hc : ∀ args ρ args' w H, VRL ρ args args' → Rep ρ H w → ConGood P ρ f args' w (c H args)) : (C.withC f c).Ok P := by
  refine { toOk := h.toOk, hcon := h.hcon, con := fun k args ρ args' w H ha hr => ?_ }
  simp only [Ctx.withC]
  cases hk : Nat.beq k f with
  | false => exact h.con k args ρ args' w H ha hr
  | true => obtain rfl := Nat.eq_of_beq_eq_true hk; exact hc args ρ args' w H ha hr
def Ctx.withH (C : Ctx) (f : Nat) (c : Heap → List Value → ER) : Ctx := { toEnv := C.toEnv, con := fun g H args => bif Nat.beq g f then .no else C.con g H args, opq := fun g => Nat.beq g f || C.opq g, hcon := fun g H args => bif Nat.beq g f then c H args else C.hcon g H args }
theorem Ctx.Ok.withH {P : Program} {C : Ctx} (h : C.Ok P) {f : Nat} {c : Heap → List Value → ER} (hc : ∀ H args, HGood P f args H (c H args)) : (C.withH f c).Ok P := by
  refine { toOk := h.toOk, con := fun k args ρ args' w H ha hr => ?_, hcon := fun k H args => ?_ }
  · simp only [Ctx.withH]
    cases hk : Nat.beq k f with
    | false => exact h.con k args ρ args' w H ha hr
    | true => exact trivial
  · simp only [Ctx.withH]
    cases hk : Nat.beq k f with
    | false => exact h.hcon k H args
    | true => obtain rfl := Nat.eq_of_beq_eq_true hk; exact hc H args
section
variable {P : Program} {Q : Value → Heap → Prop}
theorem MWp.collect (keep L : List Nat) {S : St} (hB : colB keep L S = true) (hP : ∀ o ∈ colObjs L S.H, ∀ x, o = some x → plainO x) (h : MWp P (collect keep L S) Q) : MWp P S Q := by
  simp only [colB, Bool.and_eq_true] at hB
  obtain ⟨b0, b1, b2, b3, b4, b5, b6, b7, b8⟩ := hB
  have hrest : S.rest = [] := by cases hh : S.rest <;> simp_all
  have hnd := nodupB_iff L b2
  have hbase := Nat.le_of_ble_eq_true b3
  have hlen : L.length < 1000000 := by simpa [Nat.blt_eq] using b4
  have hnt : S.top.fn.ntmps < 1000000 := by simpa [Nat.blt_eq] using b5
  have hpre : ∀ i, i < S.base → L[i]? = some i := by
    intro i hi
    have := List.all_eq_true.1 b6 i (List.mem_range.2 hi)
    have e := Nat.eq_of_beq_eq_true this
    rw [List.getElem?_eq_getElem (by omega)]
    rw [List.getD_eq_getElem?_getD, List.getElem?_eq_getElem (by omega)] at e
    simpa using e
  intro ρ w g gs R hr hf hfs hR
  rw [hrest] at hfs
  simp only [FRL] at hfs; subst hfs
  have hlb : (colObjs L S.H).length < big := by simp [colObjs, big]; omega
  have hget : ∀ j, (mkH (colObjs L S.H)).get j = (L[j]?).bind fun b => match S.H.get b with | some o => some (colO L o) | none => none := by
    intro j
    rw [mkH_get _ hlb]
    simp only [colObjs, List.getElem?_map]
    cases L[j]? <;> rfl
  have hgot : ∀ j o, (mkH (colObjs L S.H)).get j = some o → ∃ b o0, L[j]? = some b ∧ S.H.get b = some o0 ∧ o = colO L o0 ∧ plainO o0 := by
    intro j o ho
    rw [hget] at ho
    cases hj : L[j]? with
    | none => rw [hj] at ho; simp at ho
    | some b =>
      rw [hj] at ho; simp only [Option.bind_some] at ho
      cases hb : S.H.get b with
      | none => rw [hb] at ho; simp at ho
      | some o0 =>
        rw [hb] at ho; simp only [Option.some.injEq] at ho
        refine ⟨b, o0, rfl, hb, ho.symm, ?_⟩
        have hmem : (some (colO L o0) : Option LO) ∈ colObjs L S.H := by
          simp only [colObjs, List.mem_map]
          exact ⟨b, List.mem_of_getElem? hj, by rw [hb]⟩
        have := hP _ hmem _ rfl
        cases o0 <;> first | trivial | exact this
  have hown : ∀ o, (colO L o).own = o.own := fun o => by cases o <;> rfl
  have hrep : Rep (ρ.via L) (mkH (colObjs L S.H)) w := by
    refine ⟨by simp [mkH, colObjs, big]; omega, fun i b hb => ?_, fun i j b o hi ho hj h1 h2 => ?_, fun i o ho => ?_, fun i o ho hoo => ?_, fun i k g n ho => ?_⟩
    · simp only [Ren.via] at hb
      cases hL : L[i]? with
      | none => rw [hL] at hb; simp at hb
      | some x =>
        rw [hL] at hb; simp only [Option.bind_some] at hb
        exact ⟨by have := (List.getElem?_eq_some_iff.1 hL).1; simpa [mkH, colObjs] using this, (hr.dom x b hb).2⟩
    · obtain ⟨bi, oi, e1, e2, rfl, _⟩ := hgot i o hi
      obtain ⟨oj', hoj⟩ := Option.isSome_iff_exists.1 hj
      obtain ⟨bj, oj, e3, e4, rfl, _⟩ := hgot j oj' hoj
      rw [(via_get ρ e1).1] at h1
      rw [(via_get ρ e3).1] at h2
      have := hr.inj bi bj b oi e2 (by rw [← hown]; exact ho) (by rw [e4]; rfl) h1 h2
      subst this
      have hli := (List.getElem?_eq_some_iff.1 e1).1
      exact (List.getElem?_inj hli hnd).1 (e1.trans e3.symm)
    · obtain ⟨b, o0, e1, e2, rfl, hp⟩ := hgot i o ho
      have := (List.getElem?_eq_some_iff.1 e1).1
      simpa [mkH, colObjs] using this
    · obtain ⟨b, o0, e1, e2, rfl, hp⟩ := hgot i o ho
      have hro := hr.ro0 (Nat.eq_of_beq_eq_true b0) e2 (by rw [← hown]; exact hoo)
      obtain ⟨_, c, o', hc, hw, hor⟩ := hr.obj b o0 e2 (by rw [← hown]; exact hoo)
      have hv := via_get ρ e1
      have hcb : colOB L o0 = true := by
        have := List.all_eq_true.1 b8 b (List.mem_of_getElem? e1)
        rw [e2] at this; exact this
      exact ⟨fun _ => by rw [hv.2.2.1, hro], c, o', hv.1.trans hc, hw, colO_OR e1 o0 o' hcb hp hor⟩
    · obtain ⟨b, o0, e1, e2, e3, hp⟩ := hgot i _ ho
      have e4 : o0 = .arg k g n := by cases o0 <;> simp [colO] at e3 <;> simp_all
      subst e4
      obtain ⟨hro, har⟩ := hr.arg b k g n e2
      have hv := via_get ρ e1
      refine ⟨hv.2.2.1.trans hro, hv.2.2.2.2.trans har.wd, fun e j he hj => ?_⟩
      obtain ⟨h1, c, v', hc, hcell, hvr⟩ := har.cell e j he hj
      exact ⟨h1, c, v', hv.1.trans hc, by rw [hv.2.2.2.1]; exact hcell, VR_noBlk (ρ := ρ) (ρ' := ρ.via L) rfl _ _ (hp e j) hvr⟩
  have hvl : (colVals keep L S.top.fn.ntmps S.top.t).length = S.top.fn.ntmps := by simp [colVals]
  have htr : TR (ρ.via L) S.top.fn.ntmps (trArgs (colVals keep L S.top.fn.ntmps S.top.t) 0 .nil) g.a := by
    refine ⟨hf.t.size, hf.t.small, fun i => ?_, hf.t.defers⟩
    rw [trArgs_get _ 0 .nil (by rw [hvl]; unfold big; omega)]
    simp only [Nat.zero_le, true_and, Nat.zero_add, Nat.sub_zero]
    have hv := hf.t.val i
    by_cases hi : i < S.top.fn.ntmps
    · rw [if_pos (by rw [hvl]; exact hi)]
      have e : (colVals keep L S.top.fn.ntmps S.top.t)[i]? = some (bif memB keep i then renV (posOf L) ((S.top.t.get i).getD undef) else anyV) := by
        simp [colVals, hi]
      rw [e]
      simp only [Option.getD_some]
      cases hk : memB keep i with
      | false => exact VR_any _
      | true =>
        have hb := List.all_eq_true.1 b7 i (List.mem_range.2 hi)
        rw [hk] at hb; simp only [cond_true] at hb
        exact VR_via _ _ hb hv
    · rw [if_neg (by rw [hvl]; exact hi), Tr.get_nil]
      have : g.a.tmps.getD i undef = undef := by
        rw [Array.getD_eq_getD_getElem?, Array.getElem?_eq_none (by rw [hf.t.size]; omega)]; rfl
      rw [this]; exact VR_undef
  have hfr : Fresh ρ (ρ.via L) w := by
    intro i b hb
    simp only [Ren.via] at hb
    cases hL : L[i]? with
    | none => rw [hL] at hb; simp at hb
    | some x =>
      rw [hL] at hb; simp only [Option.bind_some] at hb
      exact .inr ⟨x, hb, fun e => by rw [(via_get ρ hL).2.2.1] at e; exact e⟩
  have := h (ρ.via L) w g [] R hrep ⟨hf.fn, hf.k, hf.dst, by rw [show g.a = g.a from rfl]; exact htr⟩ (by simp [Go.Ly.collect, mkSt, FRL])
    (fun ρ'' v v' H'' w'' hq h1 h2 h3 h4 h5 => hR ρ'' v v' H'' w'' hq (by
      refine ⟨?_, h1.tok⟩
      intro i b hb
      have hi : i < S.base := by
        simp only [Ren.cut] at hb; split at hb
        · assumption
        · cases hb
      have hb' : ρ i = some b := by simp only [Ren.cut] at hb; rw [if_pos hi] at hb; exact hb
      have hv := via_get ρ (hpre i hi)
      have hc : ((ρ.via L).cut S.base) i = some b := by simp only [Ren.cut]; rw [if_pos hi, hv.1]; exact hb'
      have hs := h1 i b hc
      refine ⟨?_, hs.cap.trans hv.2.1, hs.ro.trans hv.2.2.1, hs.off.trans hv.2.2.2.1, hs.wd.trans hv.2.2.2.2⟩
      exact hs.b.trans (hc.trans hb.symm))
      (Fresh.trans (Nat.le_refl _) hfr h2) h3 h4
      ⟨h5.os, h5.tape, h5.output, h5.size, fun k hk hi => h5.block k hk (fun i e => by
        simp only [Ren.via] at e
        cases hL : L[i]? with
        | none => rw [hL] at e; simp at e
        | some x =>
          rw [hL] at e; simp only [Option.bind_some] at e
          rw [(via_get ρ hL).2.2.1]; exact hi x e)⟩)
  exact this
end
end Go.Ly
namespace Go.Ly
open Go.RowKit
def lookS : List (Nat × Value) → Nat → Value
  | [], _ => anyV
  | (j, v) :: r, i => bif Nat.beq j i then v else lookS r i
def slots (n : Nat) (l : List (Nat × Value)) : List Value := (List.range n).map (lookS l)
def sl (i n : Nat) : Value := .slice (some ⟨i, 0, none⟩) n 18446744073709551616
def ints (k : IntKind) (f : Nat → Int) (n : Nat) : LO := .arg 1 (fun e _ => .int k (f e)) n
def headAt (keep L : List Nat) (d : St) (r : RO) : Bool × List (Bool × Bool) × Bool × (Func × List KI × Option Tmp × Nat) × List Value × List (Option LO) := (r.isHalt, r.trust, colB keep L (r.st d), ((r.st d).top.fn, (r.st d).top.k, (r.st d).top.dst, (r.st d).base), colVals keep L (r.st d).top.fn.ntmps (r.st d).top.t, colObjs L (r.st d).H)
theorem MWp.head {P : Program} {C : Ctx} {Q : Value → Heap → Prop} (hC : C.Ok P) {S d : St} {t : List (Bool × Bool)} {fn : Func} {k : List KI} {dst : Option Tmp} {base : Nat} {vals : List Value} {os : List (Option LO)} (keep L : List Nat) (n : Nat) (p : Path)
    (h : headAt keep L d (run C n p S) = (true, t, true, (fn, k, dst, base), vals, os)) (htr : trusted t) (hP : ∀ o ∈ os, ∀ x, o = some x → plainO x) (hs : MWp P (mkSt fn k dst base vals os) Q) : MWp P S Q := by
  simp only [headAt, Prod.mk.injEq] at h
  obtain ⟨h1, h2, h3, ⟨h4, h5, h6, h7⟩, h8, h9⟩ := h
  refine MWp.seg hC n p h1 h2 htr (d := d) (MWp.collect keep L h3 (by rw [h9]; exact hP) ?_)
  unfold Go.Ly.collect
  rw [h8, h9, h4, h5, h6, h7]
  exact hs
theorem plain_ints {k : IntKind} {f : Nat → Int} {n : Nat} : plainO (ints k f n) := fun _ _ => by simp [noBlk, blks]
section
variable {P : Program}
theorem calls_ro {f : FuncId} {args0 args' : List Value} {os : List (Option LO)} {v : Value} {ρ : Ren} {w : World} (h : LCalls P f args0 (mkH os) (fun u _ => u = v)) (hv : plain v = true)
    (ha : VRL ρ args0 args') (hr : Rep ρ (mkH os) w) (hro : ∀ i, ρ.ro i = true) : Calls P f ⟨args'⟩ w (fun e w' => e = .returned v ∧ Below w.heap.size w w') := by
  refine (h ρ args' w ha hr).mono ?_
  rintro e w' ⟨ρ2, u, u', H', rfl, rfl, _, _, h3, _, h5⟩
  exact ⟨by rw [plain_eq hv h3], h5.os, h5.tape, h5.output, h5.size, fun k hk => h5.block k hk (fun i _ => hro i)⟩
structure Plc where
  b : Nat
  o : Nat
  c : Nat
def rowsRen (l : List (Option Plc)) : Ren := ⟨fun i => ((l[i]?).getD none).map (·.b), fun i => (((l[i]?).getD none).map (·.c)).getD 0, fun _ => true, fun i => (((l[i]?).getD none).map (·.o)).getD 0, fun _ => 1, fun _ => undef⟩
structure RealRow (w : World) (k : IntKind) (f : Nat → Int) (n : Nat) (x' : Value) (p : Option Plc) : Prop where
  shape : ∃ a' c', x' = .slice (some a') n c' ∧ n ≤ c' ∧ (n ≠ 0 → ∃ q, p = some q ∧ a' = ⟨q.b, q.o, none⟩ ∧ q.c = c')
  low : ∀ q, p = some q → q.b < w.heap.size
  cell : ∀ e, e < n → ∃ q, p = some q ∧ w.cell? ⟨q.b, q.o + e, none⟩ = some (.int k (f e))
theorem rows_rep {w : World} {l : List (Option Plc)} {rs : List (IntKind × (Nat → Int) × Nat)} (hl : l.length = rs.length) (hs : rs.length < 1000) (hb : ∀ (i : Nat) (q : Plc), (l[i]?).getD none = some q → q.b < w.heap.size)
    (hr : ∀ (i : Nat) (k : IntKind) (f : Nat → Int) (n : Nat), rs[i]? = some (k, f, n) → ∀ e, e < n → ∃ q : Plc, (l[i]?).getD none = some q ∧ w.cell? ⟨q.b, q.o + e, none⟩ = some (.int k (f e))) : Rep (rowsRen l) (mkH (rs.map fun r => some (ints r.1 r.2.1 r.2.2))) w := by
  have hlen : (rs.map fun r => some (ints r.1 r.2.1 r.2.2)).length < big := by simp [big]; omega
  have hget : ∀ j o, (mkH (rs.map fun r => some (ints r.1 r.2.1 r.2.2))).get j = some o → ∃ r, rs[j]? = some r ∧ o = ints r.1 r.2.1 r.2.2 := by
    intro j o ho
    rw [mkH_get _ hlen] at ho
    simp only [List.getElem?_map] at ho
    cases hj : rs[j]? with
    | none => rw [hj] at ho; simp at ho
    | some r => rw [hj] at ho; simp at ho; exact ⟨r, rfl, ho.symm⟩
  refine ⟨by simp [mkH, big]; omega, fun i b h => ?_, fun i j b o hi hown => ?_, fun i o ho => ?_, fun i o ho hown => ?_, fun i k g n ho => ?_⟩
  · simp only [rowsRen, Option.map_eq_some_iff] at h
    obtain ⟨q, h1, rfl⟩ := h
    refine ⟨?_, hb i q h1⟩
    rcases Nat.lt_or_ge i l.length with h2 | h2
    · simpa [mkH, hl] using h2
    · rw [List.getElem?_eq_none h2] at h1; simp at h1
  · obtain ⟨r, _, rfl⟩ := hget i o hi; simp [ints, LO.own] at hown
  · obtain ⟨r, h1, _⟩ := hget i o ho
    have := (List.getElem?_eq_some_iff.1 h1).1
    simpa [mkH] using this
  · obtain ⟨r, _, rfl⟩ := hget i o ho; simp [ints, LO.own] at hown
  · obtain ⟨r, h1, h2⟩ := hget i _ ho
    simp only [ints, LO.arg.injEq] at h2
    obtain ⟨rfl, rfl, rfl⟩ := h2
    refine ⟨rfl, rfl, fun e j he hj => ⟨rfl, ?_⟩⟩
    obtain ⟨q, h3, h4⟩ := hr i r.1 r.2.1 r.2.2 h1 e he
    have hj0 : j = 0 := by omega
    subst hj0
    refine ⟨q.b, .int r.1 (r.2.1 e), by simp [rowsRen, h3], ?_, by simp [VR]⟩
    simp only [rowsRen, h3, Option.map_some, Option.getD_some, Nat.mul_one, Nat.add_zero]
    exact h4
theorem sl_VR {w : World} {k : IntKind} {f : Nat → Int} {n i : Nat} {x' : Value} {l : List (Option Plc)} {p : Option Plc} (h : RealRow w k f n x' p) (hp : (l[i]?).getD none = p) : VR (rowsRen l) (sl i n) x' := by
  obtain ⟨a', c', rfl, hc, hn⟩ := h.shape
  simp only [sl, VR]
  refine ⟨a', c', rfl, hc, fun e => absurd rfl e, fun h0 => ?_⟩
  obtain ⟨q, rfl, rfl, rfl⟩ := hn h0
  exact ⟨q.b, by simp [rowsRen, hp], by simp [Ren.at, rowsRen, hp], fun _ _ => by simp [rowsRen, hp]⟩
end
def isK (k : IntKind) : Value → Bool
  | .int k' _ => kbeq k' k
  | _ => false
def intV : Value → Int
  | .int _ n => n
  | _ => 0
theorem isK_eq {k : IntKind} {v : Value} (h : isK k v = true) : v = .int k (intV v) := by
  cases v <;> simp [isK] at h
  rw [kbeq_eq h]; rfl
def Rw.ints (k : IntKind) : Rw → Bool
  | .lst _ l => l.all (isK k)
  | .gen n g => (List.range n).all fun e => isK k (g e 0)
def Rw.at : Rw → Nat → Int
  | .lst _ l => fun e => intV ((l[e]?).getD undef)
  | .gen _ g => fun e => intV (g e 0)
def eqU (n : Nat) (f g : Nat → Int) : Bool := (List.range n).all fun e => f e == g e
theorem eqU_true {n : Nat} {f g : Nat → Int} (h : ∀ e, e < n → f e = g e) : eqU n f g = true := by
  unfold eqU; rw [List.all_eq_true]; intro e he; simpa using h e (List.mem_range.1 he)
theorem eqU_false {n : Nat} {f g : Nat → Int} {e : Nat} (he : e < n) (h : f e ≠ g e) : eqU n f g = false := by
  unfold eqU; rw [List.all_eq_false]; exact ⟨e, List.mem_range.2 he, by simpa using h⟩
section
variable {P : Program} {ρ : Ren} {w : World} {H : Heap}
theorem view_row (hr : Rep ρ H w) {a : Addr} {n c : Nat} {x' : Value} {gd : Bool} {v : Rw} {k : IntKind} (hx : VR ρ (.slice (some a) n c) x') (h : srcR H 1 (.slice (some a) n c) = some (gd, v)) (hgd : gd = true) (hi : v.ints k = true) :
    v.n = n ∧ ∃ p, RealRow w k v.at n x' p := by
  obtain ⟨l', a1, c1, hok, hx', hcells⟩ := srcR_cells hr hx h hgd
  obtain ⟨a', c', rfl⟩ := VR_slice_some hx
  have hvn : v.n = n := by injection hx' with _ e _; exact e.symm
  have hlen := hok.len
  have hval : ∀ e, e < n → l'[e]? = some (.int k (v.at e)) := by
    intro e he
    have hlt : e < l'.length := by rw [hlen, hvn]; omega
    cases v with
    | lst m l =>
      have hll := VRL.length hok.1
      have hget : l[e]? = some (l[e]'(by omega)) := List.getElem?_eq_getElem (by omega)
      obtain ⟨u, h1, h2⟩ := VRL.get hok.1 e _ hget
      have h3 := isK_eq (List.all_eq_true.1 hi _ (List.getElem_mem (by omega : e < l.length)))
      rw [h3] at h2
      simp only [VR] at h2
      rw [h1, h2]
      simp [Rw.at, hget]
    | gen m g =>
      have hm : m = n := hvn
      obtain ⟨u, h1, h2⟩ := hok.2.val e 0 (by omega) (by omega)
      have h3 := isK_eq (List.all_eq_true.1 hi e (List.mem_range.2 (by omega)))
      rw [h3] at h2
      simp only [VR] at h2
      rw [Nat.zero_add, Nat.mul_one, Nat.add_zero] at h1
      rw [h1, h2]; rfl
  refine ⟨hvn, ?_⟩
  have hsh := hx
  simp only [VR] at hsh
  obtain ⟨a2, c2, e2, hn2, _, haddr⟩ := hsh
  injection e2 with e3 _ e4
  simp only [Option.some.injEq] at e3
  subst e3 e4
  by_cases hn : n = 0
  · exact ⟨none, ⟨_, _, rfl, hn2, fun h0 => absurd hn h0⟩, (fun _ e => by cases e), (fun e he => by omega)⟩
  · obtain ⟨b, hb, rfl, _⟩ := haddr hn
    refine ⟨some ⟨b, ρ.at a, c'⟩, ⟨_, _, rfl, hn2, fun _ => ⟨_, rfl, rfl, rfl⟩⟩, fun q e => ?_, fun e he => ⟨_, rfl, ?_⟩⟩
    · simp only [Option.some.injEq] at e; subst e; exact (hr.dom _ _ hb).2
    · exact hcells e _ (hval e he) b hb
def conEq (k : IntKind) (H : Heap) (args : List Value) : ER :=
  match args with
  | [x, y] =>
    match srcR H 1 x, srcR H 1 y with
    | some (g1, u), some (g2, v) => .tst (g1 && (g2 && (u.ints k && (v.ints k && Nat.ble u.n 9223372036854775807)))) (.val (.bool (Nat.beq u.n v.n && eqU u.n u.at v.at))) .no
    | _, _ => .no
  | _ => .no
theorem nil_or {x : Value} {size : Nat} {gd : Bool} {v : Rw} (h : srcR H size x = some (gd, v)) : (x = .slice none 0 0 ∧ v = .lst 0 []) ∨ ∃ a n c, x = .slice (some a) n c := by
  unfold srcR at h
  split at h
  · simp at h; exact .inl ⟨rfl, h.2.symm⟩
  · exact .inr ⟨_, _, _, rfl⟩
  · simp at h
theorem conEq_good {k : IntKind} {f : FuncId}
    (hSS : ∀ (n m : Nat) (p q : Nat → Int), n ≤ 9223372036854775807 → LCalls P f [sl 0 n, sl 1 m] (mkH [some (ints k p n), some (ints k q m)]) (fun u _ => u = .bool (Nat.beq n m && eqU n p q)))
    (hNS : ∀ (m : Nat) (q : Nat → Int), LCalls P f [.slice none 0 0, sl 0 m] (mkH [some (ints k q m)]) (fun u _ => u = .bool (Nat.beq 0 m)))
    (hSN : ∀ (n : Nat) (p : Nat → Int), LCalls P f [sl 0 n, .slice none 0 0] (mkH [some (ints k p n)]) (fun u _ => u = .bool (Nat.beq n 0)))
    (hNN : LCalls P f [.slice none 0 0, .slice none 0 0] (mkH []) (fun u _ => u = .bool true))
    (args : List Value) (ρ : Ren) (args' : List Value) (w : World) (H : Heap) (ha : VRL ρ args args') (hr : Rep ρ H w) : ConGood P ρ f args' w (conEq k H args) := by
  unfold conEq
  split
  · rename_i x y
    simp only [VRL] at ha
    obtain ⟨x', _, hx, ⟨y', _, hy, rfl, rfl⟩, rfl⟩ := ha
    split
    · rename_i g1 u g2 v h1 h2
      refine ⟨fun hg => ?_, fun _ => trivial⟩
      simp only [Bool.and_eq_true] at hg
      obtain ⟨e1, e2, e3, e4, e5⟩ := hg
      have e5' := Nat.le_of_ble_eq_true e5
      refine ⟨_, VR_bool, ?_⟩
      rcases nil_or h1 with ⟨rfl, rfl⟩ | ⟨a, n, c, rfl⟩
      · simp only [VR] at hx; subst hx
        rcases nil_or h2 with ⟨rfl, rfl⟩ | ⟨b, m, d, rfl⟩
        · simp only [VR] at hy; subst hy
          exact calls_ro (ρ := rowsRen []) hNN (by simp [plain]) (by simp [VRL, VR]) (rows_rep (rs := []) rfl (by simp) (by simp) (by simp)) (fun _ => rfl)
        · obtain ⟨hvn, p, hrow⟩ := view_row hr hy h2 e2 e4
          have := calls_ro (ρ := rowsRen [p]) (hNS m v.at) (by simp [plain]) (by simp only [VRL]; exact ⟨.slice none 0 0, [y'], by simp [VR], ⟨y', [], sl_VR hrow (by simp), rfl, rfl⟩, rfl⟩)
            (rows_rep (l := [p]) (rs := [(k, v.at, m)]) rfl (by simp) (by
              intro i q hq
              rcases i with _ | i
              · simp at hq; exact hrow.low q hq
              · simp at hq) (by
              intro i k' f' n' h0 e he
              rcases i with _ | i
              · simp at h0; obtain ⟨rfl, rfl, rfl⟩ := h0
                obtain ⟨q, h3, h4⟩ := hrow.cell e he
                exact ⟨q, by simp [h3], h4⟩
              · simp at h0)) (fun _ => rfl)
          have he : (Nat.beq (Rw.n (.lst 0 [])) v.n && eqU (Rw.n (.lst 0 [])) (Rw.at (.lst 0 [])) v.at) = Nat.beq 0 m := by rw [hvn]; simp [Rw.n, eqU]
          rw [he]
          exact this
      · obtain ⟨hun, p, hrow⟩ := view_row hr hx h1 e1 e3
        rcases nil_or h2 with ⟨rfl, rfl⟩ | ⟨b, m, d, rfl⟩
        · simp only [VR] at hy; subst hy
          have := calls_ro (ρ := rowsRen [p]) (hSN n u.at) (by simp [plain]) (by simp only [VRL]; exact ⟨x', [.slice none 0 0], sl_VR hrow (by simp), ⟨.slice none 0 0, [], by simp [VR], rfl, rfl⟩, rfl⟩)
            (rows_rep (l := [p]) (rs := [(k, u.at, n)]) rfl (by simp) (by
              intro i q hq
              rcases i with _ | i
              · simp at hq; exact hrow.low q hq
              · simp at hq) (by
              intro i k' f' n' h0 e he
              rcases i with _ | i
              · simp at h0; obtain ⟨rfl, rfl, rfl⟩ := h0
                obtain ⟨q, h3, h4⟩ := hrow.cell e he
                exact ⟨q, by simp [h3], h4⟩
              · simp at h0)) (fun _ => rfl)
          rw [show (Nat.beq u.n (Rw.n (.lst 0 [])) && eqU u.n u.at (Rw.at (.lst 0 []))) = Nat.beq n 0 by
            rw [hun]; simp only [Rw.n]
            cases hb : Nat.beq n 0 with
            | false => rfl
            | true => rw [Nat.eq_of_beq_eq_true hb]; rfl]
          exact this
        · obtain ⟨hvn, p2, hrow2⟩ := view_row hr hy h2 e2 e4
          have := calls_ro (ρ := rowsRen [p, p2]) (hSS n m u.at v.at (by rw [← hun]; exact e5')) (by simp [plain]) (by simp only [VRL]; exact ⟨x', [y'], sl_VR hrow (by simp), ⟨y', [], sl_VR hrow2 (by simp), rfl, rfl⟩, rfl⟩)
            (rows_rep (l := [p, p2]) (rs := [(k, u.at, n), (k, v.at, m)]) rfl (by simp) (by
              intro i q hq
              rcases i with _ | _ | i
              · simp at hq; exact hrow.low q hq
              · simp at hq; exact hrow2.low q hq
              · simp at hq) (by
              intro i k' f' n' h0 e he
              rcases i with _ | _ | i
              · simp at h0; obtain ⟨rfl, rfl, rfl⟩ := h0
                obtain ⟨q, h3, h4⟩ := hrow.cell e he
                exact ⟨q, by simp [h3], h4⟩
              · simp at h0; obtain ⟨rfl, rfl, rfl⟩ := h0
                obtain ⟨q, h3, h4⟩ := hrow2.cell e he
                exact ⟨q, by simp [h3], h4⟩
              · simp at h0)) (fun _ => rfl)
          rw [hun, hvn]
          exact this
    · exact trivial
  · exact trivial
end
end Go.Ly
namespace Go.Ly
open Go.RowKit
section
variable {P : Program} {C : Ctx}
theorem HGood_val {f : FuncId} {args : List Value} {v : Value} (ha : plainL args = true) (hv : plain v = true) (h : ∀ w, Calls P f ⟨args⟩ w (fun e w' => e = .returned v ∧ Below w.heap.size w w')) (H : Heap) : HGood P f args H (.val v) := by
  intro ρ args' w hva hr
  obtain rfl := plainL_eq ha hva
  refine (h w).mono ?_
  rintro e w' ⟨rfl, hb⟩
  exact ⟨ρ, v, v, H, rfl, ⟨rfl, rfl⟩, Ren.le_refl _, Fresh.refl _ _, plain_VR v hv, hr.below hb, Below.toKeep hb⟩
def con1 (k : IntKind) (mk : Nat → (Nat → Int) → Bool × Value) (H : Heap) (args : List Value) : ER :=
  match args with
  | [x] =>
    match srcR H 1 x with
    | some (g1, u) => .tst (g1 && (u.ints k && (mk u.n u.at).1)) (.val (mk u.n u.at).2) .no
    | none => .no
  | _ => .no
theorem con1_good {k : IntKind} {f : FuncId} {mk : Nat → (Nat → Int) → Bool × Value} (hp : ∀ n p, plain (mk n p).2 = true)
    (hS : ∀ (n : Nat) (p : Nat → Int), (mk n p).1 = true → LCalls P f [sl 0 n] (mkH [some (ints k p n)]) (fun u _ => u = (mk n p).2))
    (hN : ∀ (p : Nat → Int), LCalls P f [.slice none 0 0] (mkH []) (fun u _ => u = (mk 0 p).2))
    (args : List Value) (ρ : Ren) (args' : List Value) (w : World) (H : Heap) (ha : VRL ρ args args') (hr : Rep ρ H w) : ConGood P ρ f args' w (con1 k mk H args) := by
  unfold con1
  split
  · rename_i x
    simp only [VRL] at ha
    obtain ⟨x', _, hx, rfl, rfl⟩ := ha
    cases h1 : srcR H 1 x with
    | none => exact trivial
    | some gu =>
      obtain ⟨g1, u⟩ := gu
      simp only
      refine ⟨fun hg => ?_, fun _ => trivial⟩
      simp only [Bool.and_eq_true] at hg
      obtain ⟨e1, e3, e5⟩ := hg
      refine ⟨_, plain_VR _ (hp _ _), ?_⟩
      rcases nil_or h1 with ⟨rfl, rfl⟩ | ⟨a, n, c, rfl⟩
      · simp only [VR] at hx; subst hx
        exact calls_ro (ρ := rowsRen []) (hN _) (hp _ _) (by simp [VRL, VR]) (rows_rep (rs := []) rfl (by simp) (by simp) (by simp)) (fun _ => rfl)
      · obtain ⟨hun, p, hrow⟩ := view_row hr hx h1 e1 e3
        rw [hun] at e5 ⊢
        exact calls_ro (ρ := rowsRen [p]) (hS n u.at e5) (hp _ _) (by simp only [VRL]; exact ⟨x', [], sl_VR hrow (by simp), rfl, rfl⟩)
            (rows_rep (l := [p]) (rs := [(k, u.at, n)]) rfl (by simp) (by
              intro i q hq
              rcases i with _ | i
              · simp at hq; exact hrow.low q hq
              · simp at hq) (by
              intro i k' f' n' h0 e he
              rcases i with _ | i
              · simp at h0; obtain ⟨rfl, rfl, rfl⟩ := h0
                obtain ⟨q, h3, h4⟩ := hrow.cell e he
                exact ⟨q, by simp [h3], h4⟩
              · simp at h0)) (fun _ => rfl)
  · exact trivial
end
end Go.Ly
namespace Go.Ly
open Go.RowKit
section
variable {P : Program} {w : World}
end
end Go.Ly
end
