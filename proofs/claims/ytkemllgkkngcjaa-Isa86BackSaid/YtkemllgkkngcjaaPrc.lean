/- Part 3 of the texts that the law needs, laid together. By program (pack.py). -/
import Derived.Test.YtkemllgkkngcjaaPrb
import Derived.Laws.BitsAllLaws
import Derived.Laws.BitsLemmas
import Derived.Laws.Bits64
import Derived.Deep.Slices
import Derived.OpenShut
import Derived.Carry
import Derived.KernelRfl
import Derived.Test.YtkemllgkkngcjaaProg
set_option linter.unusedVariables false
set_option linter.unusedSimpArgs false
noncomputable section
namespace Go.Ly
open Go.RowKit
abbrev Path := List (Nat × Bool)
inductive Leaf where
  | done (v : Value) (H : Heap)
  | halt (S : St)
inductive RO where
  | ok (trust : List (Bool × Bool)) (l : Leaf)
  | no
def RO.add (b d : Bool) : RO → RO
  | .ok l x => .ok ((b, d) :: l) x
  | .no => .no
def runSR (rec : Path → St → RO) (S : St) : Path → SR → RO
  | p, .go S' => rec p S'
  | _, .done v H => .ok [] (.done v H)
  | _, .stop => .ok [] (.halt S)
  | _, .no => .no
  | [], .tst b x y => bif b then runSR rec S [] x else runSR rec S [] y
  | (0, d) :: p, .tst b x y => (bif d then runSR rec S p x else runSR rec S p y).add b d
  | (k + 1, d) :: p, .tst b x y => bif b then runSR rec S ((k, d) :: p) x else runSR rec S ((k, d) :: p) y
def run (C : Ctx) : Nat → Path → St → RO
  | 0, _, S => .ok [] (.halt S)
  | n + 1, p, S => runSR (run C n) S p (step C S)
def Leaf.sat (P : Program) (Q : Value → Heap → Prop) : Leaf → Prop
  | .done v H => Q v H
  | .halt S => MWp P S Q
def trusted : List (Bool × Bool) → Prop
  | [] => True
  | (b, d) :: l => b = d ∧ trusted l
section
variable {P : Program} {C : Ctx} {Q : Value → Heap → Prop}
theorem runSR_sound {rec : Path → St → RO} {S : St} (hrec : ∀ p S' t l, rec p S' = .ok t l → trusted t → l.sat P Q → MWp P S' Q) :
    ∀ (x : SR) (p : Path) (t : List (Bool × Bool)) (l : Leaf), runSR rec S p x = .ok t l → trusted t → l.sat P Q → (l = .halt S ∧ True) ∨ x.sat P Q
  | .go S', p, t, l, h, ht, hl => by
    simp only [runSR] at h
    exact .inr (hrec p S' t l h ht hl)
  | .done v H, p, t, l, h, ht, hl => by
    simp only [runSR, RO.ok.injEq] at h
    obtain ⟨_, rfl⟩ := h
    exact .inr hl
  | .stop, p, t, l, h, ht, hl => by
    simp only [runSR, RO.ok.injEq] at h
    obtain ⟨_, rfl⟩ := h
    exact .inl ⟨rfl, trivial⟩
  | .no, p, t, l, h, ht, hl => by simp [runSR] at h
  | .tst b x y, [], t, l, h, ht, hl => by
    simp only [runSR] at h
    cases b with
    | true =>
      rcases runSR_sound hrec x [] t l h ht hl with h1 | h1
      · exact .inl h1
      · exact .inr ⟨fun _ => h1, fun e => by cases e⟩
    | false =>
      rcases runSR_sound hrec y [] t l h ht hl with h1 | h1
      · exact .inl h1
      · exact .inr ⟨fun e => (by cases e), fun _ => h1⟩
  | .tst b x y, (k + 1, d) :: p, t, l, h, ht, hl => by
    simp only [runSR] at h
    cases b with
    | true =>
      rcases runSR_sound hrec x _ t l h ht hl with h1 | h1
      · exact .inl h1
      · exact .inr ⟨fun _ => h1, fun e => by cases e⟩
    | false =>
      rcases runSR_sound hrec y _ t l h ht hl with h1 | h1
      · exact .inl h1
      · exact .inr ⟨fun e => (by cases e), fun _ => h1⟩
  | .tst b x y, (0, d) :: p, t, l, h, ht, hl => by
    simp only [runSR] at h
    cases d with
    | true =>
      simp only [cond_true] at h
      cases hx : runSR rec S p x with
      | no => rw [hx] at h; simp [RO.add] at h
      | ok t' l' =>
        rw [hx] at h; simp only [RO.add, RO.ok.injEq] at h
        obtain ⟨rfl, rfl⟩ := h
        rcases runSR_sound hrec x p t' l' hx ht.2 hl with h1 | h1
        · exact .inl h1
        · refine .inr ⟨fun _ => h1, fun e => ?_⟩
          have := ht.1; rw [e] at this; cases this
    | false =>
      simp only [cond_false] at h
      cases hx : runSR rec S p y with
      | no => rw [hx] at h; simp [RO.add] at h
      | ok t' l' =>
        rw [hx] at h; simp only [RO.add, RO.ok.injEq] at h
        obtain ⟨rfl, rfl⟩ := h
        rcases runSR_sound hrec y p t' l' hx ht.2 hl with h1 | h1
        · exact .inl h1
        · refine .inr ⟨fun e => ?_, fun _ => h1⟩
          have := ht.1; rw [e] at this; cases this
theorem run_sound (hC : C.Ok P) : ∀ (n : Nat) (p : Path) (S : St) (t : List (Bool × Bool)) (l : Leaf), run C n p S = .ok t l → trusted t → l.sat P Q → MWp P S Q
  | 0, p, S, t, l, h, _, hl => by simp only [run, RO.ok.injEq] at h; obtain ⟨_, rfl⟩ := h; exact hl
  | n + 1, p, S, t, l, h, ht, hl => by
    simp only [run] at h
    rcases runSR_sound (P := P) (Q := Q) (fun p S' t l => run_sound hC n p S' t l) _ p t l h ht hl with ⟨rfl, _⟩ | h1
    · exact hl
    · exact step_sound hC h1
def start (fn : Func) (args : List Value) (H : Heap) : St :=
  { top := { fn := fn, t := trArgs args 0 .nil, k := match fn.body with | some c => [.code c] | none => [], dst := none }, rest := [], H := H, base := H.next }
theorem LCalls_of {f : FuncId} {fn : Func} {args : List Value} {H : Heap} (hC : C.Ok P) (hf : C.fn.get f = some fn)
    (hl : (Nat.ble args.length fn.ntmps && Nat.blt fn.ntmps 1000000) = true) (h : MWp P (start fn args H) Q) : LCalls P f args H Q := by
  obtain ⟨hp, hbody, _⟩ := hC.fn f fn hf
  simp only [Bool.and_eq_true, Nat.blt_eq] at hl
  have hl1 := Nat.le_of_ble_eq_true hl.1
  intro ρ args' w ha hr
  cases hb : fn.body with
  | none => rw [hb] at hbody; cases hbody
  | some c =>
    refine calls_of_wp hp hb ?_
    have hk : (start fn args H).top.k = [.code c] := by simp [start, hb]
    have hcut : Ren.le ρ (ρ.cut H.next) := ⟨fun i b e => ⟨by simp only [Ren.cut]; rw [if_pos (hr.dom i b e).1], rfl, rfl, rfl, rfl⟩, rfl⟩
    have := h ρ w { fn := fn, k := [.code c], dst := none, a := { tmps := (⟨args'⟩ : Array Value) ++ Array.replicate (fn.ntmps - (⟨args'⟩ : Array Value).size) undef, defers := [] } } []
      (fun v' w' => ∃ ρ' v H', Q v H' ∧ Ren.le ρ ρ' ∧ Fresh ρ ρ' w ∧ VR ρ' v v' ∧ Rep ρ' H' w' ∧ Keep ρ w w') hr ⟨rfl, by rw [hk], rfl, enter_TR ha hl1 hl.2⟩ (by simp [start, FRL])
      (fun ρ' v v' H' w' hq h1 h2 h3 h4 h5 => ⟨ρ', v, H', hq, Ren.le_trans hcut h1, h2, h3, h4, h5⟩)
    have h2 : c.wp P (topPost P fn [] (fun v' w' => ∃ ρ' v H', Q v H' ∧ Ren.le ρ ρ' ∧ Fresh ρ ρ' w ∧ VR ρ' v v' ∧ Rep ρ' H' w' ∧ Keep ρ w w')) _ w := this
    refine wp_mono h2 ?_
    intro e a w' hq
    cases e with
    | normal =>
      obtain ⟨hd, v, hres, v', he, ρ', u, H', hQ, h1, h2, h3, h4, h5⟩ := hq
      obtain rfl : v = v' := by injection he
      exact ⟨hd, v, hres, ρ', u, v, H', rfl, hQ, h1, h2, h3, h4, h5⟩
    | ret =>
      obtain ⟨hd, v, hres, v', he, ρ', u, H', hQ, h1, h2, h3, h4, h5⟩ := hq
      obtain rfl : v = v' := by injection he
      exact ⟨hd, v, hres, ρ', u, v, H', rfl, hQ, h1, h2, h3, h4, h5⟩
    | panic c => obtain ⟨_, v', he, _⟩ := hq; cases he
    | outgrown => obtain ⟨v', he, _⟩ := hq; cases he
    | exit id => exact hq
    | goto l => exact hq
def H0 : Heap := { m := .nil, next := 0 }
def ρ0 : Ren := ⟨fun _ => none, fun _ => 0, fun _ => false, fun _ => 0, fun _ => 0, fun _ => undef⟩
theorem Rep0 (w : World) : Rep ρ0 H0 w :=
  ⟨by simp [H0, big], fun i b h => by simp [ρ0] at h, fun i j b o h => by simp [H0, Heap.get, Tr.get_nil] at h, fun i o h => by simp [H0, Heap.get, Tr.get_nil] at h, fun i o h => by simp [H0, Heap.get, Tr.get_nil] at h, fun i k g n h => by simp [H0, Heap.get, Tr.get_nil] at h⟩
theorem calls_plain {f : FuncId} {args : List Value} {v : Value} (ha : VRL ρ0 args args) (hv : ∀ ρ v', VR ρ v v' → v' = v) (h : LCalls P f args H0 (fun u _ => u = v)) (w : World) :
    Calls P f ⟨args⟩ w (fun e w' => e = .returned v ∧ Below w.heap.size w w') := by
  refine (h ρ0 args w ha (Rep0 w)).mono ?_
  rintro e w' ⟨ρ', u, v', H', rfl, rfl, _, _, h3, _, h5⟩
  refine ⟨by rw [hv _ _ h3], h5.os, h5.tape, h5.output, h5.size, fun k hk => h5.block k hk (fun i e => by simp [ρ0] at e)⟩
end
end Go.Ly
namespace Go.Ly
def Tr.ofList {α : Type} : List (Nat × α) → Tr α
  | [] => .nil
  | (n, x) :: l => (Tr.ofList l).set n (some x)
theorem Tr.get_ofList {α : Type} {p : Nat → α → Prop} : ∀ (l : List (Nat × α)), (∀ q ∈ l, q.1 < big ∧ p q.1 q.2) → ∀ n x, (Tr.ofList l).get n = some x → p n x
  | [], _, n, x, h => by simp [Tr.ofList, Tr.get_nil] at h
  | (m, y) :: l, hl, n, x, h => by
    have h1 := hl (m, y) (by simp)
    rw [Tr.ofList, Tr.get_set _ _ _ h1.1] at h
    by_cases e : n = m
    · rw [if_pos e] at h; simp at h; subst h e; exact h1.2
    · rw [if_neg e] at h; exact Tr.get_ofList l (fun q hq => hl q (by simp [hq])) n x h
def TyOk (P : Program) (t : TypeId) (i : TI) : Prop := P.underlying t = some i.desc ∧ (∃ j, P.info? t = some j ∧ j.size = i.size ∧ j.zero = i.zero ∧ j.bytes = i.bytes) ∧ (i.eqok = true → P.stoodInHeld t = false ∧ P.eqGuardType P.depth t = false)
def FnOk (P : Program) (f : Nat) (g : Func) : Prop := P.funcs[f]? = some g ∧ g.body.isSome = true ∧ (g.name == "runtime.NumGoroutine") = false
def Each {α : Type} (p : Nat → α → Prop) : List (Nat × α) → Prop
  | [] => True
  | (n, x) :: l => p n x ∧ Each p l
theorem Each.mem {α : Type} {p : Nat → α → Prop} : ∀ {l : List (Nat × α)}, Each p l → (l.all fun q => Nat.blt q.1 2147483000) = true → ∀ q ∈ l, q.1 < big ∧ p q.1 q.2
  | [], _, _, q, h => by cases h
  | (n, x) :: l, h, hb, q, hq => by
    simp only [List.all_cons, Bool.and_eq_true, Nat.blt_eq] at hb
    cases hq with
    | head => exact ⟨hb.1, h.1⟩
    | tail _ hq => exact Each.mem h.2 hb.2 q hq
theorem Env.ok_of {P : Program} {ts : List (Nat × TI)} {fs : List (Nat × Func)} (ht : Each (TyOk P) ts) (hf : Each (FnOk P) fs)
    (h1 : (ts.all fun q => Nat.blt q.1 2147483000) = true) (h2 : (fs.all fun q => Nat.blt q.1 2147483000) = true) (hm : P.follows .mixedOrders = true) :
    Env.Ok { ty := Tr.ofList ts, fn := Tr.ofList fs } P :=
  ⟨fun t i h => Tr.get_ofList ts (Each.mem ht h1) t i h, fun f g h => Tr.get_ofList fs (Each.mem hf h2) f g h, hm⟩
def RO.val? : RO → Option Value
  | .ok [] (.done v _) => some v
  | _ => none
def Env.bare (E : Env) : Ctx := { toEnv := E, con := fun _ _ _ => .no, opq := fun _ => false, hcon := fun _ _ _ => .no }
theorem Env.bare_ok {P : Program} {E : Env} (h : E.Ok P) : E.bare.Ok P := { toOk := h, con := fun _ _ _ _ _ _ _ _ => trivial, hcon := fun _ _ _ => trivial }
def yes : Option Value → Bool
  | some (.bool true) => true
  | _ => false
end Go.Ly
namespace Go.Ly
open Go.RowKit
mutual
/-- a value that names no block, all through -/
def plain : Value → Bool
  | .bool _ | .int _ _ | .string _ | .pointer none | .slice none _ _ | .map none | .nilFunc | .nilIface => true
  | .agg ⟨xs⟩ => plainL xs
  | .tuple ⟨xs⟩ => plainL xs
  | _ => false
def plainL : List Value → Bool
  | [] => true
  | v :: r => plain v && plainL r
end
mutual
theorem plain_VR {ρ : Ren} : ∀ (v : Value), plain v = true → VR ρ v v
  | .bool _, _ => by simp [VR]
  | .int _ _, _ => by simp [VR]
  | .string _, _ => by simp [VR]
  | .pointer none, _ => by simp [VR]
  | .pointer (some _), h => by simp [plain] at h
  | .slice none _ _, _ => by simp [VR]
  | .slice (some _) _ _, h => by simp [plain] at h
  | .map none, _ => by simp [VR]
  | .map (some _), h => by simp [plain] at h
  | .func _ _ _, h => by simp [plain] at h
  | .nilFunc, _ => by simp [VR]
  | .iface _ _, h => by simp [plain] at h
  | .nilIface, _ => by simp [VR]
  | .agg ⟨xs⟩, h => by simp only [plain] at h; simp only [VR]; exact ⟨xs, plainL_VR xs h, rfl⟩
  | .tuple ⟨xs⟩, h => by simp only [plain] at h; simp only [VR]; exact ⟨xs, plainL_VR xs h, rfl⟩
  | .float _ _, h => by simp [plain] at h
  | .complex _ _ _, h => by simp [plain] at h
  | .chan _, h => by simp [plain] at h
theorem plainL_VR {ρ : Ren} : ∀ (l : List Value), plainL l = true → VRL ρ l l
  | [], _ => by simp [VRL]
  | v :: r, h => by
    simp only [plainL, Bool.and_eq_true] at h
    simp only [VRL]
    exact ⟨v, r, plain_VR v h.1, plainL_VR r h.2, rfl⟩
end
mutual
theorem plain_rig : ∀ (v : Value), plain v = true → rig v = true
  | .bool _, _ => rfl
  | .int _ _, _ => rfl
  | .string _, _ => rfl
  | .pointer none, _ => rfl
  | .pointer (some _), h => by simp [plain] at h
  | .slice none _ _, _ => rfl
  | .slice (some _) _ _, h => by simp [plain] at h
  | .map none, _ => rfl
  | .map (some _), h => by simp [plain] at h
  | .func _ _ _, h => by simp [plain] at h
  | .nilFunc, _ => rfl
  | .iface _ _, h => by simp [plain] at h
  | .nilIface, _ => rfl
  | .agg ⟨xs⟩, h => by simp only [plain] at h; simp only [rig]; exact plainL_rig xs h
  | .tuple ⟨xs⟩, h => by simp only [plain] at h; simp only [rig]; exact plainL_rig xs h
  | .float _ _, h => by simp [plain] at h
  | .complex _ _ _, h => by simp [plain] at h
  | .chan _, h => by simp [plain] at h
theorem plainL_rig : ∀ (l : List Value), plainL l = true → rigL l = true
  | [], _ => rfl
  | v :: r, h => by
    simp only [plainL, Bool.and_eq_true] at h
    simp only [rigL, Bool.and_eq_true]
    exact ⟨plain_rig v h.1, plainL_rig r h.2⟩
end
theorem plain_eq {ρ : Ren} {v v' : Value} (h : plain v = true) (hv : VR ρ v v') : v' = v := rig_one v (plain_rig v h) v' v hv (plain_VR v h)
theorem plainL_eq {ρ : Ren} {l l' : List Value} (h : plainL l = true) (hv : VRL ρ l l') : l' = l := rigL_one l (plainL_rig l h) l' l hv (plainL_VR l h)
def RO.out? : RO → Option (List (Bool × Bool) × Value)
  | .ok t (.done v _) => some (t, v)
  | _ => none
theorem LCalls_trust {P : Program} {C : Ctx} (hC : C.Ok P) {f : FuncId} {fn : Func} {args : List Value} {H : Heap} {t : List (Bool × Bool)} {v : Value} (n : Nat) (p : Path) (hf : C.fn.get f = some fn)
    (hl : (Nat.ble args.length fn.ntmps && Nat.blt fn.ntmps 1000000) = true) (h : (run C n p (start fn args H)).out? = some (t, v)) (ht : trusted t) : LCalls P f args H (fun u _ => u = v) := by
  refine LCalls_of hC hf hl ?_
  cases hr : run C n p (start fn args H) with
  | no => rw [hr] at h; simp [RO.out?] at h
  | ok t' l =>
    rw [hr] at h
    cases l with
    | halt S => simp [RO.out?] at h
    | done u H' =>
      simp only [RO.out?, Option.some.injEq, Prod.mk.injEq] at h
      obtain ⟨rfl, rfl⟩ := h
      exact run_sound hC n p _ t' _ hr ht rfl
theorem calls_trust {P : Program} {C : Ctx} (hC : C.Ok P) {f : FuncId} {fn : Func} {args : List Value} {t : List (Bool × Bool)} {v : Value} (n : Nat) (p : Path) (hf : C.fn.get f = some fn)
    (hl : (Nat.ble args.length fn.ntmps && Nat.blt fn.ntmps 1000000) = true) (ha : plainL args = true) (hv : plain v = true) (h : (run C n p (start fn args H0)).out? = some (t, v)) (ht : trusted t) (w : World) :
    Calls P f ⟨args⟩ w (fun e w' => e = .returned v ∧ Below w.heap.size w w') :=
  calls_plain (plainL_VR args ha) (fun ρ v' h => plain_eq hv h) (LCalls_trust hC n p hf hl h ht) w
end Go.Ly
namespace Go.Ly
open Go.RowKit
def conAns : Option (Bool × Value) → ER
  | some (g, v) => .tst g (.val v) .no
  | none => .no
def Ctx.with (C : Ctx) (f : Nat) (c : List Value → Option (Bool × Value)) : Ctx := { toEnv := C.toEnv, con := fun g H args => bif Nat.beq g f then conAns (c args) else C.con g H args, opq := fun g => Nat.beq g f || C.opq g, hcon := C.hcon }
def Answers (P : Program) (f : Nat) (c : List Value → Option (Bool × Value)) : Prop := ∀ args g v, c args = some (g, v) → g = true → plainL args = true ∧ plain v = true ∧ ∀ w, Calls P f ⟨args⟩ w (fun e w' => e = .returned v ∧ Below w.heap.size w w')
theorem Ctx.Ok.with {P : Program} {C : Ctx} (h : C.Ok P) {f : Nat} {c : List Value → Option (Bool × Value)} (hc : Answers P f c) : (C.with f c).Ok P := by
  refine { toOk := h.toOk, hcon := h.hcon, con := fun k args ρ args' w H ha hr => ?_ }
  simp only [Ctx.with]
  cases hk : Nat.beq k f with
  | false => exact h.con k args ρ args' w H ha hr
  | true =>
    obtain rfl := Nat.eq_of_beq_eq_true hk
    simp only [cond_true]
    cases hca : c args with
    | none => exact trivial
    | some gv =>
      obtain ⟨g, v⟩ := gv
      refine ⟨fun hg => ?_, fun _ => trivial⟩
      obtain ⟨hp, hv, hw⟩ := hc args g v hca hg
      obtain rfl := plainL_eq hp ha
      exact ⟨v, plain_VR v hv, hw w⟩
mutual
def peq : Value → Value → Bool
  | .bool a, .bool b => a == b
  | .int k a, .int k' b => decide (k = k') && decide (a = b)
  | .agg ⟨xs⟩, .agg ⟨ys⟩ => peqL xs ys
  | .tuple ⟨xs⟩, .tuple ⟨ys⟩ => peqL xs ys
  | _, _ => false
def peqL : List Value → List Value → Bool
  | [], [] => true
  | v :: r, u :: s => peq v u && peqL r s
  | _, _ => false
end
def tok : List (Bool × Bool) → Bool
  | [] => true
  | (b, d) :: r => (b == d) && tok r
theorem fin_all (k : Nat) {p : Int → Prop} (h : ∀ n : Fin k, p (n.val : Int)) (b : Int) (h0 : 0 ≤ b) (h1 : b < k) : p b := by
  have := h ⟨b.toNat, by omega⟩
  have e : ((b.toNat : Nat) : Int) = b := by omega
  simpa [e] using this
end Go.Ly
namespace Go.Ly
open Go.ChangeShapes Go.WideShapes Go.Deep Go.RowKit
inductive CK where
  | bool
  | int (k : IntKind)
  | str
  | slice (e : List CK)
def flatFs (P : Program) (F : TypeId → Option (List CK)) : Nat → List Field → Option (List CK)
  | _, [] => some []
  | off, f :: fs =>
    match F f.type with
    | none => none
    | some l => bif Nat.beq f.offset off && Nat.beq (P.cellsOf f.type) l.length then
        (match flatFs P F (off + l.length) fs with | some r => some (l ++ r) | none => none)
      else none
def repL (l : List CK) : Nat → List CK
  | 0 => []
  | n + 1 => l ++ repL l n
def flatT (P : Program) : Nat → TypeId → Option (List CK)
  | 0, _ => none
  | f + 1, t =>
    match P.underlying t with
    | some .bool => some [.bool]
    | some (.int k) => some [.int k]
    | some .string => some [.str]
    | some (.slice e) => match flatT P f e with
      | some l => bif Nat.beq (P.cellsOf e) l.length then some [.slice l] else none
      | none => none
    | some (.struct fs) => match flatFs P (flatT P f) 0 fs.toList with
      | some l => bif Nat.beq (P.cellsOf t) l.length then some l else none
      | none => none
    | some (.array n e) => match flatT P f e with
      | some l => bif Nat.beq (P.cellsOf e) l.length && Nat.beq (P.cellsOf t) (n * l.length) then some (repL l n) else none
      | none => none
    | _ => none
mutual
def CkOk (w : World) : CK → Value → Prop
  | .bool, v => ∃ b, v = .bool b
  | .int k, v => ∃ n, v = .int k n ∧ (Lit.int k n).wf = true
  | .str, v => ∃ s : ByteArray, v = .string s ∧ s.size ≤ maxLen
  | .slice e, v => v = .slice none 0 0 ∨ ∃ (a : Addr) (len cap : Nat) (F : Nat → List Value), v = .slice (some a) len cap ∧ len ≤ cap ∧ cap ≤ maxLen ∧
      ∀ i, i < len → (F i).length = e.length ∧ (∀ j, j < e.length → a.block < w.heap.size ∧ a.spot = none ∧ w.cell? (a.add (i * e.length + j)) = (F i)[j]?) ∧ CksOk w e (F i)
def CksOk (w : World) : List CK → List Value → Prop
  | [], l => l = []
  | k :: ks, l => ∃ v r, l = v :: r ∧ CkOk w k v ∧ CksOk w ks r
end
theorem CksOk.length {w : World} : ∀ {ks : List CK} {l : List Value}, CksOk w ks l → l.length = ks.length
  | [], l, h => by simp only [CksOk] at h; subst h; rfl
  | k :: ks, l, h => by
    simp only [CksOk] at h
    obtain ⟨v, r, rfl, _, h2⟩ := h
    simp [CksOk.length h2]
theorem CksOk.append {w : World} : ∀ {ks ks' : List CK} {l l' : List Value}, CksOk w ks l → CksOk w ks' l' → CksOk w (ks ++ ks') (l ++ l')
  | [], ks', l, l', h, h' => by simp only [CksOk] at h; subst h; simpa using h'
  | k :: ks, ks', l, l', h, h' => by
    simp only [CksOk] at h
    obtain ⟨v, r, rfl, h1, h2⟩ := h
    simp only [List.cons_append, CksOk]
    exact ⟨v, _, rfl, h1, CksOk.append h2 h'⟩
section
variable {H : Type} {enc : TypeId × Value → H} {P : Program} {w : World} {base : Nat} {spare : Nat → Bool} {held : Bool}
theorem cell_some {a : Addr} {v : Value} (h : w.cell? a = some v) : a.block < w.heap.size ∧ a.spot = none := by
  unfold World.cell? at h
  split at h
  · rename_i c t f hb
    refine ⟨?_, ?_⟩
    · rcases Nat.lt_or_ge a.block w.heap.size with h' | h'
      · exact h'
      · rw [Array.getElem?_eq_none h'] at hb; cases hb
    · split at h
      · cases h
      · rename_i hs; simpa using hs
  · cases h
theorem add_block (a : Addr) (n : Nat) : (a.add n).block = a.block := by unfold Addr.add; split <;> rfl
theorem flatFs_ok {F : TypeId → Option (List CK)} {n : Nat} {cs : List Value}
    (ih : ∀ t ks cs x, F t = some ks → DataW.trod enc P w base spare held n t cs = some x → CksOk w ks cs) :
    ∀ (fs : List Field) (off : Nat) (ks : List CK), flatFs P F off fs = some ks →
      (∀ f ∈ fs, ∃ x, DataW.trod enc P w base spare held n f.type ((cs.drop f.offset).take (P.cellsOf f.type)) = some x) →
      CksOk w ks ((cs.drop off).take ks.length)
  | [], off, ks, h, _ => by simp only [flatFs, Option.some.injEq] at h; subst h; simp [CksOk]
  | f :: fs, off, ks, h, hf => by
    simp only [flatFs] at h
    cases hF : F f.type with
    | none => rw [hF] at h; simp at h
    | some l =>
      rw [hF] at h; simp only at h
      cases hc : (Nat.beq f.offset off && Nat.beq (P.cellsOf f.type) l.length) with
      | false => rw [hc] at h; simp at h
      | true =>
        rw [hc] at h; simp only [cond_true] at h
        simp only [Bool.and_eq_true] at hc
        have h1 := Nat.eq_of_beq_eq_true hc.1
        have h2 := Nat.eq_of_beq_eq_true hc.2
        cases hr : flatFs P F (off + l.length) fs with
        | none => rw [hr] at h; simp at h
        | some r =>
          rw [hr] at h; simp only [Option.some.injEq] at h; subst h
          obtain ⟨x, hx⟩ := hf f (by simp)
          have hl := ih _ _ _ _ hF hx
          rw [h1, h2] at hl
          have hr' := flatFs_ok ih fs (off + l.length) r hr (fun g hg => hf g (by simp [hg]))
          have hlen := hl.length
          have hlen' := hr'.length
          rw [List.length_append, List.take_add, List.drop_drop]
          exact hl.append hr'
theorem repL_ok {l : List CK} {cs : List Value} : ∀ (n off : Nat), (∀ i, i < n → CksOk w l ((cs.drop (off + i * l.length)).take l.length)) → CksOk w (repL l n) ((cs.drop off).take (n * l.length))
  | 0, off, _ => by simp [repL, CksOk]
  | n + 1, off, h => by
    have h0 := h 0 (by omega)
    rw [Nat.zero_mul, Nat.add_zero] at h0
    have hr := repL_ok n (off + l.length) (fun i hi => by
      have := h (i + 1) (by omega)
      rwa [show off + (i + 1) * l.length = off + l.length + i * l.length by rw [Nat.add_mul]; omega] at this)
    rw [show (n + 1) * l.length = l.length + n * l.length by rw [Nat.add_mul]; omega, List.take_add, List.drop_drop]
    exact h0.append hr
theorem flatT_ok : ∀ (f : Nat) (t : TypeId) (ks : List CK) (n : Nat) (cs : List Value) (x : DataW H × List MemPlace), flatT P f t = some ks → DataW.trod enc P w base spare held n t cs = some x → CksOk w ks cs
  | 0, t, ks, n, cs, x, h, _ => by simp [flatT] at h
  | f + 1, t, ks, n, cs, x, h, ht => by
    simp only [flatT] at h
    split at h
    · rename_i hu
      simp only [Option.some.injEq] at h; subst h
      obtain ⟨b, rfl, _⟩ := DataW.trod_bool hu ht
      simp only [CksOk]
      exact ⟨_, [], rfl, by simp only [CkOk]; exact ⟨b, rfl⟩, rfl⟩
    · rename_i k hu
      simp only [Option.some.injEq] at h; subst h
      obtain ⟨m, rfl, _, hw⟩ := DataW.trod_int hu ht
      simp only [CksOk]
      exact ⟨_, [], rfl, by simp only [CkOk]; exact ⟨m, rfl, hw⟩, rfl⟩
    · rename_i hu
      simp only [Option.some.injEq] at h; subst h
      obtain ⟨s, rfl, _, hw⟩ := DataW.trod_string hu ht
      simp only [CksOk]
      exact ⟨_, [], rfl, by simp only [CkOk]; exact ⟨s, rfl, hw⟩, rfl⟩
    · rename_i e hu
      cases hl : flatT P f e with
      | none => rw [hl] at h; simp at h
      | some l =>
        rw [hl] at h; simp only at h
        cases hc : Nat.beq (P.cellsOf e) l.length with
        | false => rw [hc] at h; simp at h
        | true =>
          rw [hc] at h; simp only [cond_true, Option.some.injEq] at h; subst h
          have hc' := Nat.eq_of_beq_eq_true hc
          simp only [CksOk]
          rcases open_slice hu ht with ⟨rfl, _⟩ | ⟨a, len, cap, m, q, D, Pl, rfl, _, hlc, hcap, hm, _, hel⟩
          · exact ⟨_, [], rfl, by simp only [CkOk]; exact .inl trivial, rfl⟩
          · refine ⟨_, [], rfl, ?_, rfl⟩
            simp only [CkOk]
            right
            have hlen : len ≤ m := by rw [hm]; split <;> omega
            have hch : ∀ i, i < len → ∃ cs', cs'.length = l.length ∧ (∀ j, j < l.length → a.block < w.heap.size ∧ a.spot = none ∧ w.cell? (a.add (i * l.length + j)) = cs'[j]?) ∧ CksOk w l cs' := by
              intro i hi
              obtain ⟨cs', h1, h2⟩ := hel i (by omega)
              rw [hc'] at h1
              obtain ⟨_, hcl, hat⟩ := World.cells?_some h1
              refine ⟨cs', hcl, fun j hj => ?_, flatT_ok f e l q cs' _ hl h2⟩
              have hcell := hat j hj
              rw [Go.Deep.add_add] at hcell
              have hsome : w.cell? (a.add (i * l.length + j)) = some (cs'[j]'(by omega)) := by rw [hcell, List.getElem?_eq_getElem (by omega)]
              obtain ⟨g1, _⟩ := cell_some hsome
              rw [add_block] at g1
              obtain ⟨cs0, k1, _⟩ := hel 0 (by omega)
              rw [hc'] at k1
              obtain ⟨_, kcl, kat⟩ := World.cells?_some k1
              have kc := kat 0 (by omega)
              rw [Nat.zero_mul, List.getElem?_eq_getElem (by omega)] at kc
              have kz : (a.add 0).add 0 = a := by simp [Addr.add]
              rw [kz] at kc
              exact ⟨g1, (cell_some kc).2, hcell⟩
            obtain ⟨F, hF⟩ := choose_lt hch
            exact ⟨a, len, cap, F, rfl, hlc, hcap, hF⟩
    · rename_i fs hu
      cases hl : flatFs P (flatT P f) 0 fs.toList with
      | none => rw [hl] at h; simp at h
      | some l =>
        rw [hl] at h; simp only at h
        cases hc : Nat.beq (P.cellsOf t) l.length with
        | false => rw [hc] at h; simp at h
        | true =>
          rw [hc] at h; simp only [cond_true, Option.some.injEq] at h; subst h
          have hc' := Nat.eq_of_beq_eq_true hc
          obtain ⟨xs, q, _, _, hcl, hxl, hf⟩ := DataW.trod_struct hu ht
          have := flatFs_ok (w := w) (cs := cs) (fun t ks cs x h1 h2 => flatT_ok f t ks q cs x h1 h2) fs.toList 0 l hl (fun g hg => by
            obtain ⟨i, hi, rfl⟩ := List.getElem_of_mem hg
            have hi' : i < fs.size := by simpa using hi
            have h1 := hf i (fs.toList[i]) (by simp [hi'])
            rw [List.getElem?_eq_getElem (by omega)] at h1
            exact ⟨_, h1⟩)
          rw [List.drop_zero, List.take_of_length_le (by omega)] at this
          exact this
    · rename_i m e hu
      cases hl : flatT P f e with
      | none => rw [hl] at h; simp at h
      | some l =>
        rw [hl] at h; simp only at h
        cases hc : (Nat.beq (P.cellsOf e) l.length && Nat.beq (P.cellsOf t) (m * l.length)) with
        | false => rw [hc] at h; simp at h
        | true =>
          rw [hc] at h; simp only [cond_true, Option.some.injEq] at h; subst h
          simp only [Bool.and_eq_true] at hc
          have hc1 := Nat.eq_of_beq_eq_true hc.1
          have hc2 := Nat.eq_of_beq_eq_true hc.2
          obtain ⟨xs, q, _, _, hcl, hxl, hf⟩ := DataW.trod_array hu ht
          have := repL_ok (w := w) (l := l) (cs := cs) m 0 (fun i hi => by
            have h1 := hf i hi
            rw [List.getElem?_eq_getElem (by omega), hc1] at h1
            rw [Nat.zero_add]
            exact flatT_ok f e l q _ _ hl h1)
          rw [List.drop_zero, List.take_of_length_le (by omega)] at this
          exact this
    · simp at h
theorem open_cell {t : TypeId} {v : Value} {d : DataW H} {p : List MemPlace} {k : CK} (hf : flatT P 9 t = some [k]) (hone : v.cells.toList = [v])
    (h : DataW.Trod enc P w base spare held t v d p) : CkOk w k v := by
  obtain ⟨fuel, hx⟩ := h
  have := flatT_ok 9 t [k] fuel _ _ hf hx
  rw [hone] at this
  simp only [CksOk] at this
  obtain ⟨u, r, e, h1, rfl⟩ := this
  simp only [List.cons.injEq, and_true] at e
  rw [e]; exact h1
def isAggT (P : Program) (t : TypeId) : Bool := match P.underlying t with | some (.struct _) | some (.array _ _) => true | _ => false
theorem one_of {r : Reach} {b0 : Nat} {t : TypeId} {v : Value} (ha : isAggT P t = false) (hv : Value.okWide P w r b0 t v) : v.cells.toList = [v] := by
  cases v with
  | agg cs =>
    exfalso
    unfold isAggT at ha
    unfold Value.okWide at hv
    split at ha
    · cases ha
    · cases ha
    · rename_i h1 h2
      split at hv
      · rename_i fs hu; exact h1 fs hu
      · rename_i m e hu; exact h2 m e hu
      · unfold Cell.okWide at hv
        split at hv <;> first | (rename_i h3 h4; cases h4; done) | skip
        all_goals first | (unfold Cell.ok at hv; split at hv <;> first | exact hv | (rename_i h5 h6; cases h6; done) | skip) | skip
        all_goals simp_all
  | _ => rfl
theorem open_agg {r : Reach} {b0 : Nat} {t : TypeId} {v : Value} {d : DataW H} {p : List MemPlace} {ks : List CK} (hf : flatT P 9 t = some ks) (ha : isAggT P t = true)
    (hv : Value.okWide P w r b0 t v) (h : DataW.Trod enc P w base spare held t v d p) : ∃ cs, v = .agg ⟨cs⟩ ∧ CksOk w ks cs := by
  have hv' : ∃ cs, v = .agg cs := by
    unfold isAggT at ha
    unfold Value.okWide at hv
    split at ha
    · rename_i fs hu; rw [hu] at hv; obtain ⟨cs, h1, _⟩ := hv; exact ⟨cs, h1⟩
    · rename_i m e hu; rw [hu] at hv; obtain ⟨cs, h1, _⟩ := hv; exact ⟨cs, h1⟩
    · cases ha
  obtain ⟨cs, rfl⟩ := hv'
  obtain ⟨fuel, hx⟩ := h
  exact ⟨cs.toList, rfl, flatT_ok 9 t ks fuel _ _ hf hx⟩
end
end Go.Ly
namespace Go.Ly
open Go.RowKit
section
variable {P : Program}
structure Fits (σ : Nat → Nat) (Hs H : Heap) : Prop where
  small : Hs.next < big
  lock : H.lock = 0
  full : ∀ i, i < Hs.next → ∃ o, Hs.get i = some o
  dom : ∀ i o, Hs.get i = some o → i < Hs.next
  lie : ∀ i o, Hs.get i = some o → H.get (σ i) = some (renO (ext σ Hs.next H.next) o)
  inj : ∀ i j, i < Hs.next → j < Hs.next → σ i = σ j → i = j
structure Merged (σ : Nat → Nat) (Hs H Hs' H' : Heap) : Prop where
  lock : Hs'.lock = 0
  le : Hs.next ≤ Hs'.next
  next : H.next + (Hs'.next - Hs.next) ≤ H'.next
  small : H'.next < big
  obj : ∀ k o, H'.get k = some o → (∃ i os, ext σ Hs.next H.next i = k ∧ Hs'.get i = some os ∧ o = renO (ext σ Hs.next H.next) os) ∨
    ((∀ i, i < Hs.next → σ i ≠ k) ∧ H.get k = some o)
end
end Go.Ly
namespace Go.Ly
open Go.RowKit
def RO.trust : RO → List (Bool × Bool)
  | .ok t _ => t
  | .no => []
def RO.isHalt : RO → Bool
  | .ok _ (.halt _) => true
  | _ => false
def RO.st (d : St) : RO → St
  | .ok _ (.halt S) => S
  | _ => d
def RO.end? : RO → Option (List (Bool × Bool) × Value × Heap)
  | .ok t (.done v H) => bif Nat.beq H.lock 0 then some (t, v, H) else none
  | _ => none
theorem RO.end_lock {r : RO} {t : List (Bool × Bool)} {v : Value} {H : Heap} (h : r.end? = some (t, v, H)) : H.lock = 0 := by
  unfold RO.end? at h
  split at h
  · rename_i t' v' K
    cases hb : Nat.beq K.lock 0 with
    | false => rw [hb] at h; cases h
    | true =>
      rw [hb] at h; simp only [cond_true, Option.some.injEq, Prod.mk.injEq] at h
      obtain ⟨_, _, rfl⟩ := h
      exact Nat.eq_of_beq_eq_true hb
  · cases h
section
variable {P : Program} {C : Ctx} {Q : Value → Heap → Prop}
theorem MWp.seg (hC : C.Ok P) {S d : St} {t : List (Bool × Bool)} (n : Nat) (p : Path) (h : (run C n p S).isHalt = true) (ht : (run C n p S).trust = t) (htr : trusted t) (hs : MWp P ((run C n p S).st d) Q) : MWp P S Q := by
  cases hr : run C n p S with
  | no => rw [hr] at h; simp [RO.isHalt] at h
  | ok t' l =>
    rw [hr] at h ht hs
    cases l with
    | done v H => simp [RO.isHalt] at h
    | halt S' =>
      simp only [RO.trust] at ht; subst ht
      exact run_sound hC n p S _ _ hr htr hs
theorem MWp.done (hC : C.Ok P) {S : St} {t : List (Bool × Bool)} {v : Value} {H : Heap} (n : Nat) (p : Path) (h : (run C n p S).end? = some (t, v, H)) (htr : trusted t) (hq : Q v H) : MWp P S Q := by
  cases hr : run C n p S with
  | no => rw [hr] at h; simp [RO.end?] at h
  | ok t' l =>
    rw [hr] at h
    cases l with
    | halt S' => simp [RO.end?] at h
    | done u K =>
      simp only [RO.end?] at h
      cases hb : Nat.beq K.lock 0 with
      | false => rw [hb] at h; cases h
      | true =>
      rw [hb] at h
      simp only [cond_true, Option.some.injEq, Prod.mk.injEq] at h
      obtain ⟨rfl, rfl, rfl⟩ := h
      exact run_sound hC n p S _ _ hr htr hq
theorem MWp.out (hC : C.Ok P) {S : St} {t : List (Bool × Bool)} {v : Value} (n : Nat) (p : Path) (h : (run C n p S).out? = some (t, v)) (htr : trusted t) (hq : ∀ H, Q v H) : MWp P S Q := by
  cases hr : run C n p S with
  | no => rw [hr] at h; simp [RO.out?] at h
  | ok t' l =>
    rw [hr] at h
    cases l with
    | halt S' => simp [RO.out?] at h
    | done u K =>
      simp only [RO.out?, Option.some.injEq, Prod.mk.injEq] at h
      obtain ⟨rfl, rfl⟩ := h
      exact run_sound hC n p S _ _ hr htr (hq K)
theorem MWp.mono {S : St} {Q' : Value → Heap → Prop} (h : MWp P S Q) (hq : ∀ v H, Q v H → Q' v H) : MWp P S Q' :=
  fun ρ w g gs R hr hf hfs hR => h ρ w g gs R hr hf hfs (fun ρ' v v' H' w' q => hR ρ' v v' H' w' (hq v H' q))
theorem LCalls.mono {f : FuncId} {args : List Value} {H : Heap} {Q' : Value → Heap → Prop} (h : LCalls P f args H Q) (hq : ∀ v H, Q v H → Q' v H) : LCalls P f args H Q' := by
  intro ρ args' w ha hr
  refine (h ρ args' w ha hr).mono ?_
  rintro e w' ⟨ρ', v, v', H', h1, h2, h3⟩
  exact ⟨ρ', v, v', H', h1, hq v H' h2, h3⟩
end
def mkSt (fn : Func) (k : List KI) (dst : Option Tmp) (base : Nat) (vals : List Value) (os : List (Option LO)) : St := { top := { fn := fn, t := trArgs vals 0 .nil, k := k, dst := dst }, rest := [], H := mkH os, base := base }
def colVals (keep L : List Nat) (n : Nat) (t : Tr Value) : List Value := (List.range n).map fun i => bif memB keep i then renV (posOf L) ((t.get i).getD undef) else anyV
def colObjs (L : List Nat) (H : Heap) : List (Option LO) := L.map fun b => match H.get b with | some o => some (colO L o) | none => none
def collect (keep L : List Nat) (S : St) : St := mkSt S.top.fn S.top.k S.top.dst S.base (colVals keep L S.top.fn.ntmps S.top.t) (colObjs L S.H)
def colB (keep L : List Nat) (S : St) : Bool :=
  Nat.beq S.H.lock 0 && (S.rest.isEmpty && (nodupB L && (Nat.ble S.base L.length && (Nat.blt L.length 1000000 && (Nat.blt S.top.fn.ntmps 1000000 &&
    (((List.range S.base).all fun i => Nat.beq (L.getD i 1000000) i) && (((List.range S.top.fn.ntmps).all fun i => bif memB keep i then blks (memB L) ((S.top.t.get i).getD undef) else true) &&
      (L.all fun b => match S.H.get b with | some o => colOB L o | none => true))))))))
theorem calls_blind {P : Program} {f : FuncId} {args args0 : List Value} {L : List Nat} {v : Value} (hL : L.length < 1000) (h : LCalls P f args0 (mkH (L.map fun _ => none)) (fun u _ => u = v)) (hv : plain v = true)
    (hb : blksL (memB L) args = true) (he : renL (posOf L) args = args0) {ρ : Ren} {args' : List Value} {w : World} {H : Heap} (ha : VRL ρ args args') (hr : Rep ρ H w) :
    Calls P f ⟨args'⟩ w (fun e w' => e = .returned v ∧ Below w.heap.size w w') := by
  have h1 := VRL_via args args' hb ha
  rw [he] at h1
  have hlen : (L.map fun _ => (none : Option LO)).length < big := by simp [big]; omega
  have hget : ∀ j, (mkH (L.map fun _ => none)).get j = none := by
    intro j
    rw [mkH_get _ hlen]
    simp only [List.getElem?_map]
    cases L[j]? <;> rfl
  let ρ' : Ren := ⟨(ρ.via L).b, (ρ.via L).cap, fun _ => true, (ρ.via L).off, (ρ.via L).wd, ρ.tok⟩
  have h2 : VRL ρ' args0 args' := VRL.monoV (ρ := ρ.via L) (ρ' := ρ') ⟨fun i b _ => ⟨rfl, rfl, rfl, rfl⟩, rfl⟩ _ _ h1
  have hrep : Rep ρ' (mkH (L.map fun _ => none)) w := by
    refine ⟨by simp [mkH, big]; omega, fun i b hb => ?_, fun i j b o hi => (by rw [hget] at hi; cases hi), fun i o ho => (by rw [hget] at ho; cases ho), fun i o ho => (by rw [hget] at ho; cases ho), fun i k g n ho => (by rw [hget] at ho; cases ho)⟩
    have hb' : (ρ.via L) i = some b := hb
    simp only [Ren.via] at hb'
    cases hL' : L[i]? with
    | none => rw [hL'] at hb'; simp at hb'
    | some x =>
      rw [hL'] at hb'; simp only [Option.bind_some] at hb'
      exact ⟨by have := (List.getElem?_eq_some_iff.1 hL').1; simpa [mkH] using this, (hr.dom x b hb').2⟩
  refine (h ρ' args' w h2 hrep).mono ?_
  rintro e w' ⟨ρ2, u, u', H', rfl, rfl, _, _, h3, _, h5⟩
  exact ⟨by rw [plain_eq hv h3], h5.os, h5.tape, h5.output, h5.size, fun k hk => h5.block k hk (fun _ _ => rfl)⟩
def AnswersR (P : Program) (f : Nat) (c : List Value → Option (Bool × Value)) : Prop := ∀ args g v, c args = some (g, v) → g = true → plain v = true ∧ ∀ (ρ : Ren) (args' : List Value) (w : World) (H : Heap), VRL ρ args args' → Rep ρ H w → Calls P f ⟨args'⟩ w (fun e w' => e = .returned v ∧ Below w.heap.size w w')
theorem Ctx.Ok.withR {P : Program} {C : Ctx} (h : C.Ok P) {f : Nat} {c : List Value → Option (Bool × Value)} (hc : AnswersR P f c) : (C.with f c).Ok P := by
  refine { toOk := h.toOk, hcon := h.hcon, con := fun k args ρ args' w H ha hr => ?_ }
  simp only [Ctx.with]
  cases hk : Nat.beq k f with
  | false => exact h.con k args ρ args' w H ha hr
  | true =>
    obtain rfl := Nat.eq_of_beq_eq_true hk
    simp only [cond_true]
    cases hca : c args with
    | none => exact trivial
    | some gv =>
      obtain ⟨g, v⟩ := gv
      refine ⟨fun hg => ?_, fun _ => trivial⟩
      obtain ⟨hv, hw⟩ := hc args g v hca hg
      exact ⟨v, plain_VR v hv, hw ρ args' w H ha hr⟩
def Ctx.withC (C : Ctx) (f : Nat) (c : Heap → List Value → ER) : Ctx := { toEnv := C.toEnv, con := fun g H args => bif Nat.beq g f then c H args else C.con g H args, opq := fun g => Nat.beq g f || C.opq g, hcon := C.hcon }
theorem Ctx.Ok.withC {P : Program} {C : Ctx} (h : C.Ok P) {f : Nat} {c : Heap → List Value → ER} (hc : ∀ args ρ args' w H, VRL ρ args args' → Rep ρ H w → ConGood P ρ f args' w (c H args)) : (C.withC f c).Ok P := by
  refine { toOk := h.toOk, hcon := h.hcon, con := fun k args ρ args' w H ha hr => ?_ }
  simp only [Ctx.withC]
  cases hk : Nat.beq k f with
  | false => exact h.con k args ρ args' w H ha hr
  | true => obtain rfl := Nat.eq_of_beq_eq_true hk; exact hc args ρ args' w H ha hr
def Ctx.withH (C : Ctx) (f : Nat) (c : Heap → List Value → ER) : Ctx := { toEnv := C.toEnv, con := fun g H args => bif Nat.beq g f then .no else C.con g H args, opq := fun g => Nat.beq g f || C.opq g, hcon := fun g H args => bif Nat.beq g f then c H args else C.hcon g H args }
theorem Ctx.Ok.withH {P : Program} {C : Ctx} (h : C.Ok P) {f : Nat} {c : Heap → List Value → ER} (hc : ∀ H args, HGood P f args H (c H args)) : (C.withH f c).Ok P := by
  refine { toOk := h.toOk, con := fun k args ρ args' w H ha hr => ?_, hcon := fun k H args => ?_ }
  · simp only [Ctx.withH]
    cases hk : Nat.beq k f with
    | false => exact h.con k args ρ args' w H ha hr
    | true => exact trivial
  · simp only [Ctx.withH]
    cases hk : Nat.beq k f with
    | false => exact h.hcon k H args
    | true => obtain rfl := Nat.eq_of_beq_eq_true hk; exact hc H args
section
variable {P : Program} {Q : Value → Heap → Prop}
theorem MWp.collect (keep L : List Nat) {S : St} (hB : colB keep L S = true) (hP : ∀ o ∈ colObjs L S.H, ∀ x, o = some x → plainO x) (h : MWp P (collect keep L S) Q) : MWp P S Q := by
  simp only [colB, Bool.and_eq_true] at hB
  obtain ⟨b0, b1, b2, b3, b4, b5, b6, b7, b8⟩ := hB
  have hrest : S.rest = [] := by cases hh : S.rest <;> simp_all
  have hnd := nodupB_iff L b2
  have hbase := Nat.le_of_ble_eq_true b3
  have hlen : L.length < 1000000 := by simpa [Nat.blt_eq] using b4
  have hnt : S.top.fn.ntmps < 1000000 := by simpa [Nat.blt_eq] using b5
  have hpre : ∀ i, i < S.base → L[i]? = some i := by
    intro i hi
    have := List.all_eq_true.1 b6 i (List.mem_range.2 hi)
    have e := Nat.eq_of_beq_eq_true this
    rw [List.getElem?_eq_getElem (by omega)]
    rw [List.getD_eq_getElem?_getD, List.getElem?_eq_getElem (by omega)] at e
    simpa using e
  intro ρ w g gs R hr hf hfs hR
  rw [hrest] at hfs
  simp only [FRL] at hfs; subst hfs
  have hlb : (colObjs L S.H).length < big := by simp [colObjs, big]; omega
  have hget : ∀ j, (mkH (colObjs L S.H)).get j = (L[j]?).bind fun b => match S.H.get b with | some o => some (colO L o) | none => none := by
    intro j
    rw [mkH_get _ hlb]
    simp only [colObjs, List.getElem?_map]
    cases L[j]? <;> rfl
  have hgot : ∀ j o, (mkH (colObjs L S.H)).get j = some o → ∃ b o0, L[j]? = some b ∧ S.H.get b = some o0 ∧ o = colO L o0 ∧ plainO o0 := by
    intro j o ho
    rw [hget] at ho
    cases hj : L[j]? with
    | none => rw [hj] at ho; simp at ho
    | some b =>
      rw [hj] at ho; simp only [Option.bind_some] at ho
      cases hb : S.H.get b with
      | none => rw [hb] at ho; simp at ho
      | some o0 =>
        rw [hb] at ho; simp only [Option.some.injEq] at ho
        refine ⟨b, o0, rfl, hb, ho.symm, ?_⟩
        have hmem : (some (colO L o0) : Option LO) ∈ colObjs L S.H := by
          simp only [colObjs, List.mem_map]
          exact ⟨b, List.mem_of_getElem? hj, by rw [hb]⟩
        have := hP _ hmem _ rfl
        cases o0 <;> first | trivial | exact this
  have hown : ∀ o, (colO L o).own = o.own := fun o => by cases o <;> rfl
  have hrep : Rep (ρ.via L) (mkH (colObjs L S.H)) w := by
    refine ⟨by simp [mkH, colObjs, big]; omega, fun i b hb => ?_, fun i j b o hi ho hj h1 h2 => ?_, fun i o ho => ?_, fun i o ho hoo => ?_, fun i k g n ho => ?_⟩
    · simp only [Ren.via] at hb
      cases hL : L[i]? with
      | none => rw [hL] at hb; simp at hb
      | some x =>
        rw [hL] at hb; simp only [Option.bind_some] at hb
        exact ⟨by have := (List.getElem?_eq_some_iff.1 hL).1; simpa [mkH, colObjs] using this, (hr.dom x b hb).2⟩
    · obtain ⟨bi, oi, e1, e2, rfl, _⟩ := hgot i o hi
      obtain ⟨oj', hoj⟩ := Option.isSome_iff_exists.1 hj
      obtain ⟨bj, oj, e3, e4, rfl, _⟩ := hgot j oj' hoj
      rw [(via_get ρ e1).1] at h1
      rw [(via_get ρ e3).1] at h2
      have := hr.inj bi bj b oi e2 (by rw [← hown]; exact ho) (by rw [e4]; rfl) h1 h2
      subst this
      have hli := (List.getElem?_eq_some_iff.1 e1).1
      exact (List.getElem?_inj hli hnd).1 (e1.trans e3.symm)
    · obtain ⟨b, o0, e1, e2, rfl, hp⟩ := hgot i o ho
      have := (List.getElem?_eq_some_iff.1 e1).1
      simpa [mkH, colObjs] using this
    · obtain ⟨b, o0, e1, e2, rfl, hp⟩ := hgot i o ho
      have hro := hr.ro0 (Nat.eq_of_beq_eq_true b0) e2 (by rw [← hown]; exact hoo)
      obtain ⟨_, c, o', hc, hw, hor⟩ := hr.obj b o0 e2 (by rw [← hown]; exact hoo)
      have hv := via_get ρ e1
      have hcb : colOB L o0 = true := by
        have := List.all_eq_true.1 b8 b (List.mem_of_getElem? e1)
        rw [e2] at this; exact this
      exact ⟨fun _ => by rw [hv.2.2.1, hro], c, o', hv.1.trans hc, hw, colO_OR e1 o0 o' hcb hp hor⟩
    · obtain ⟨b, o0, e1, e2, e3, hp⟩ := hgot i _ ho
      have e4 : o0 = .arg k g n := by cases o0 <;> simp [colO] at e3 <;> simp_all
      subst e4
      obtain ⟨hro, har⟩ := hr.arg b k g n e2
      have hv := via_get ρ e1
      refine ⟨hv.2.2.1.trans hro, hv.2.2.2.2.trans har.wd, fun e j he hj => ?_⟩
      obtain ⟨h1, c, v', hc, hcell, hvr⟩ := har.cell e j he hj
      exact ⟨h1, c, v', hv.1.trans hc, by rw [hv.2.2.2.1]; exact hcell, VR_noBlk (ρ := ρ) (ρ' := ρ.via L) rfl _ _ (hp e j) hvr⟩
  have hvl : (colVals keep L S.top.fn.ntmps S.top.t).length = S.top.fn.ntmps := by simp [colVals]
  have htr : TR (ρ.via L) S.top.fn.ntmps (trArgs (colVals keep L S.top.fn.ntmps S.top.t) 0 .nil) g.a := by
    refine ⟨hf.t.size, hf.t.small, fun i => ?_, hf.t.defers⟩
    rw [trArgs_get _ 0 .nil (by rw [hvl]; unfold big; omega)]
    simp only [Nat.zero_le, true_and, Nat.zero_add, Nat.sub_zero]
    have hv := hf.t.val i
    by_cases hi : i < S.top.fn.ntmps
    · rw [if_pos (by rw [hvl]; exact hi)]
      have e : (colVals keep L S.top.fn.ntmps S.top.t)[i]? = some (bif memB keep i then renV (posOf L) ((S.top.t.get i).getD undef) else anyV) := by
        simp [colVals, hi]
      rw [e]
      simp only [Option.getD_some]
      cases hk : memB keep i with
      | false => exact VR_any _
      | true =>
        have hb := List.all_eq_true.1 b7 i (List.mem_range.2 hi)
        rw [hk] at hb; simp only [cond_true] at hb
        exact VR_via _ _ hb hv
    · rw [if_neg (by rw [hvl]; exact hi), Tr.get_nil]
      have : g.a.tmps.getD i undef = undef := by
        rw [Array.getD_eq_getD_getElem?, Array.getElem?_eq_none (by rw [hf.t.size]; omega)]; rfl
      rw [this]; exact VR_undef
  have hfr : Fresh ρ (ρ.via L) w := by
    intro i b hb
    simp only [Ren.via] at hb
    cases hL : L[i]? with
    | none => rw [hL] at hb; simp at hb
    | some x =>
      rw [hL] at hb; simp only [Option.bind_some] at hb
      exact .inr ⟨x, hb, fun e => by rw [(via_get ρ hL).2.2.1] at e; exact e⟩
  have := h (ρ.via L) w g [] R hrep ⟨hf.fn, hf.k, hf.dst, by rw [show g.a = g.a from rfl]; exact htr⟩ (by simp [Go.Ly.collect, mkSt, FRL])
    (fun ρ'' v v' H'' w'' hq h1 h2 h3 h4 h5 => hR ρ'' v v' H'' w'' hq (by
      refine ⟨?_, h1.tok⟩
      intro i b hb
      have hi : i < S.base := by
        simp only [Ren.cut] at hb; split at hb
        · assumption
        · cases hb
      have hb' : ρ i = some b := by simp only [Ren.cut] at hb; rw [if_pos hi] at hb; exact hb
      have hv := via_get ρ (hpre i hi)
      have hc : ((ρ.via L).cut S.base) i = some b := by simp only [Ren.cut]; rw [if_pos hi, hv.1]; exact hb'
      have hs := h1 i b hc
      refine ⟨?_, hs.cap.trans hv.2.1, hs.ro.trans hv.2.2.1, hs.off.trans hv.2.2.2.1, hs.wd.trans hv.2.2.2.2⟩
      exact hs.b.trans (hc.trans hb.symm))
      (Fresh.trans (Nat.le_refl _) hfr h2) h3 h4
      ⟨h5.os, h5.tape, h5.output, h5.size, fun k hk hi => h5.block k hk (fun i e => by
        simp only [Ren.via] at e
        cases hL : L[i]? with
        | none => rw [hL] at e; simp at e
        | some x =>
          rw [hL] at e; simp only [Option.bind_some] at e
          rw [(via_get ρ hL).2.2.1]; exact hi x e)⟩)
  exact this
end
end Go.Ly
namespace Go.Ly
open Go.RowKit
def lookS : List (Nat × Value) → Nat → Value
  | [], _ => anyV
  | (j, v) :: r, i => bif Nat.beq j i then v else lookS r i
def slots (n : Nat) (l : List (Nat × Value)) : List Value := (List.range n).map (lookS l)
def sl (i n : Nat) : Value := .slice (some ⟨i, 0, none⟩) n 18446744073709551616
def ints (k : IntKind) (f : Nat → Int) (n : Nat) : LO := .arg 1 (fun e _ => .int k (f e)) n
def headAt (keep L : List Nat) (d : St) (r : RO) : Bool × List (Bool × Bool) × Bool × (Func × List KI × Option Tmp × Nat) × List Value × List (Option LO) := (r.isHalt, r.trust, colB keep L (r.st d), ((r.st d).top.fn, (r.st d).top.k, (r.st d).top.dst, (r.st d).base), colVals keep L (r.st d).top.fn.ntmps (r.st d).top.t, colObjs L (r.st d).H)
theorem MWp.head {P : Program} {C : Ctx} {Q : Value → Heap → Prop} (hC : C.Ok P) {S d : St} {t : List (Bool × Bool)} {fn : Func} {k : List KI} {dst : Option Tmp} {base : Nat} {vals : List Value} {os : List (Option LO)} (keep L : List Nat) (n : Nat) (p : Path)
    (h : headAt keep L d (run C n p S) = (true, t, true, (fn, k, dst, base), vals, os)) (htr : trusted t) (hP : ∀ o ∈ os, ∀ x, o = some x → plainO x) (hs : MWp P (mkSt fn k dst base vals os) Q) : MWp P S Q := by
  simp only [headAt, Prod.mk.injEq] at h
  obtain ⟨h1, h2, h3, ⟨h4, h5, h6, h7⟩, h8, h9⟩ := h
  refine MWp.seg hC n p h1 h2 htr (d := d) (MWp.collect keep L h3 (by rw [h9]; exact hP) ?_)
  unfold Go.Ly.collect
  rw [h8, h9, h4, h5, h6, h7]
  exact hs
theorem plain_ints {k : IntKind} {f : Nat → Int} {n : Nat} : plainO (ints k f n) := fun _ _ => by simp [noBlk, blks]
section
variable {P : Program}
theorem calls_ro {f : FuncId} {args0 args' : List Value} {os : List (Option LO)} {v : Value} {ρ : Ren} {w : World} (h : LCalls P f args0 (mkH os) (fun u _ => u = v)) (hv : plain v = true)
    (ha : VRL ρ args0 args') (hr : Rep ρ (mkH os) w) (hro : ∀ i, ρ.ro i = true) : Calls P f ⟨args'⟩ w (fun e w' => e = .returned v ∧ Below w.heap.size w w') := by
  refine (h ρ args' w ha hr).mono ?_
  rintro e w' ⟨ρ2, u, u', H', rfl, rfl, _, _, h3, _, h5⟩
  exact ⟨by rw [plain_eq hv h3], h5.os, h5.tape, h5.output, h5.size, fun k hk => h5.block k hk (fun i _ => hro i)⟩
structure Plc where
  b : Nat
  o : Nat
  c : Nat
def rowsRen (l : List (Option Plc)) : Ren := ⟨fun i => ((l[i]?).getD none).map (·.b), fun i => (((l[i]?).getD none).map (·.c)).getD 0, fun _ => true, fun i => (((l[i]?).getD none).map (·.o)).getD 0, fun _ => 1, fun _ => undef⟩
structure RealRow (w : World) (k : IntKind) (f : Nat → Int) (n : Nat) (x' : Value) (p : Option Plc) : Prop where
  shape : ∃ a' c', x' = .slice (some a') n c' ∧ n ≤ c' ∧ (n ≠ 0 → ∃ q, p = some q ∧ a' = ⟨q.b, q.o, none⟩ ∧ q.c = c')
  low : ∀ q, p = some q → q.b < w.heap.size
  cell : ∀ e, e < n → ∃ q, p = some q ∧ w.cell? ⟨q.b, q.o + e, none⟩ = some (.int k (f e))
theorem rows_rep {w : World} {l : List (Option Plc)} {rs : List (IntKind × (Nat → Int) × Nat)} (hl : l.length = rs.length) (hs : rs.length < 1000) (hb : ∀ (i : Nat) (q : Plc), (l[i]?).getD none = some q → q.b < w.heap.size)
    (hr : ∀ (i : Nat) (k : IntKind) (f : Nat → Int) (n : Nat), rs[i]? = some (k, f, n) → ∀ e, e < n → ∃ q : Plc, (l[i]?).getD none = some q ∧ w.cell? ⟨q.b, q.o + e, none⟩ = some (.int k (f e))) : Rep (rowsRen l) (mkH (rs.map fun r => some (ints r.1 r.2.1 r.2.2))) w := by
  have hlen : (rs.map fun r => some (ints r.1 r.2.1 r.2.2)).length < big := by simp [big]; omega
  have hget : ∀ j o, (mkH (rs.map fun r => some (ints r.1 r.2.1 r.2.2))).get j = some o → ∃ r, rs[j]? = some r ∧ o = ints r.1 r.2.1 r.2.2 := by
    intro j o ho
    rw [mkH_get _ hlen] at ho
    simp only [List.getElem?_map] at ho
    cases hj : rs[j]? with
    | none => rw [hj] at ho; simp at ho
    | some r => rw [hj] at ho; simp at ho; exact ⟨r, rfl, ho.symm⟩
  refine ⟨by simp [mkH, big]; omega, fun i b h => ?_, fun i j b o hi hown => ?_, fun i o ho => ?_, fun i o ho hown => ?_, fun i k g n ho => ?_⟩
  · simp only [rowsRen, Option.map_eq_some_iff] at h
    obtain ⟨q, h1, rfl⟩ := h
    refine ⟨?_, hb i q h1⟩
    rcases Nat.lt_or_ge i l.length with h2 | h2
    · simpa [mkH, hl] using h2
    · rw [List.getElem?_eq_none h2] at h1; simp at h1
  · obtain ⟨r, _, rfl⟩ := hget i o hi; simp [ints, LO.own] at hown
  · obtain ⟨r, h1, _⟩ := hget i o ho
    have := (List.getElem?_eq_some_iff.1 h1).1
    simpa [mkH] using this
  · obtain ⟨r, _, rfl⟩ := hget i o ho; simp [ints, LO.own] at hown
  · obtain ⟨r, h1, h2⟩ := hget i _ ho
    simp only [ints, LO.arg.injEq] at h2
    obtain ⟨rfl, rfl, rfl⟩ := h2
    refine ⟨rfl, rfl, fun e j he hj => ⟨rfl, ?_⟩⟩
    obtain ⟨q, h3, h4⟩ := hr i r.1 r.2.1 r.2.2 h1 e he
    have hj0 : j = 0 := by omega
    subst hj0
    refine ⟨q.b, .int r.1 (r.2.1 e), by simp [rowsRen, h3], ?_, by simp [VR]⟩
    simp only [rowsRen, h3, Option.map_some, Option.getD_some, Nat.mul_one, Nat.add_zero]
    exact h4
theorem sl_VR {w : World} {k : IntKind} {f : Nat → Int} {n i : Nat} {x' : Value} {l : List (Option Plc)} {p : Option Plc} (h : RealRow w k f n x' p) (hp : (l[i]?).getD none = p) : VR (rowsRen l) (sl i n) x' := by
  obtain ⟨a', c', rfl, hc, hn⟩ := h.shape
  simp only [sl, VR]
  refine ⟨a', c', rfl, hc, fun e => absurd rfl e, fun h0 => ?_⟩
  obtain ⟨q, rfl, rfl, rfl⟩ := hn h0
  exact ⟨q.b, by simp [rowsRen, hp], by simp [Ren.at, rowsRen, hp], fun _ _ => by simp [rowsRen, hp]⟩
end
def isK (k : IntKind) : Value → Bool
  | .int k' _ => kbeq k' k
  | _ => false
def intV : Value → Int
  | .int _ n => n
  | _ => 0
theorem isK_eq {k : IntKind} {v : Value} (h : isK k v = true) : v = .int k (intV v) := by
  cases v <;> simp [isK] at h
  rw [kbeq_eq h]; rfl
def Rw.ints (k : IntKind) : Rw → Bool
  | .lst _ l => l.all (isK k)
  | .gen n g => (List.range n).all fun e => isK k (g e 0)
def Rw.at : Rw → Nat → Int
  | .lst _ l => fun e => intV ((l[e]?).getD undef)
  | .gen _ g => fun e => intV (g e 0)
def eqU (n : Nat) (f g : Nat → Int) : Bool := (List.range n).all fun e => f e == g e
theorem eqU_true {n : Nat} {f g : Nat → Int} (h : ∀ e, e < n → f e = g e) : eqU n f g = true := by
  unfold eqU; rw [List.all_eq_true]; intro e he; simpa using h e (List.mem_range.1 he)
theorem eqU_false {n : Nat} {f g : Nat → Int} {e : Nat} (he : e < n) (h : f e ≠ g e) : eqU n f g = false := by
  unfold eqU; rw [List.all_eq_false]; exact ⟨e, List.mem_range.2 he, by simpa using h⟩
section
variable {P : Program} {ρ : Ren} {w : World} {H : Heap}
theorem view_row (hr : Rep ρ H w) {a : Addr} {n c : Nat} {x' : Value} {gd : Bool} {v : Rw} {k : IntKind} (hx : VR ρ (.slice (some a) n c) x') (h : srcR H 1 (.slice (some a) n c) = some (gd, v)) (hgd : gd = true) (hi : v.ints k = true) :
    v.n = n ∧ ∃ p, RealRow w k v.at n x' p := by
  obtain ⟨l', a1, c1, hok, hx', hcells⟩ := srcR_cells hr hx h hgd
  obtain ⟨a', c', rfl⟩ := VR_slice_some hx
  have hvn : v.n = n := by injection hx' with _ e _; exact e.symm
  have hlen := hok.len
  have hval : ∀ e, e < n → l'[e]? = some (.int k (v.at e)) := by
    intro e he
    have hlt : e < l'.length := by rw [hlen, hvn]; omega
    cases v with
    | lst m l =>
      have hll := VRL.length hok.1
      have hget : l[e]? = some (l[e]'(by omega)) := List.getElem?_eq_getElem (by omega)
      obtain ⟨u, h1, h2⟩ := VRL.get hok.1 e _ hget
      have h3 := isK_eq (List.all_eq_true.1 hi _ (List.getElem_mem (by omega : e < l.length)))
      rw [h3] at h2
      simp only [VR] at h2
      rw [h1, h2]
      simp [Rw.at, hget]
    | gen m g =>
      have hm : m = n := hvn
      obtain ⟨u, h1, h2⟩ := hok.2.val e 0 (by omega) (by omega)
      have h3 := isK_eq (List.all_eq_true.1 hi e (List.mem_range.2 (by omega)))
      rw [h3] at h2
      simp only [VR] at h2
      rw [Nat.zero_add, Nat.mul_one, Nat.add_zero] at h1
      rw [h1, h2]; rfl
  refine ⟨hvn, ?_⟩
  have hsh := hx
  simp only [VR] at hsh
  obtain ⟨a2, c2, e2, hn2, _, haddr⟩ := hsh
  injection e2 with e3 _ e4
  simp only [Option.some.injEq] at e3
  subst e3 e4
  by_cases hn : n = 0
  · exact ⟨none, ⟨_, _, rfl, hn2, fun h0 => absurd hn h0⟩, (fun _ e => by cases e), (fun e he => by omega)⟩
  · obtain ⟨b, hb, rfl, _⟩ := haddr hn
    refine ⟨some ⟨b, ρ.at a, c'⟩, ⟨_, _, rfl, hn2, fun _ => ⟨_, rfl, rfl, rfl⟩⟩, fun q e => ?_, fun e he => ⟨_, rfl, ?_⟩⟩
    · simp only [Option.some.injEq] at e; subst e; exact (hr.dom _ _ hb).2
    · exact hcells e _ (hval e he) b hb
def conEq (k : IntKind) (H : Heap) (args : List Value) : ER :=
  match args with
  | [x, y] =>
    match srcR H 1 x, srcR H 1 y with
    | some (g1, u), some (g2, v) => .tst (g1 && (g2 && (u.ints k && (v.ints k && Nat.ble u.n 9223372036854775807)))) (.val (.bool (Nat.beq u.n v.n && eqU u.n u.at v.at))) .no
    | _, _ => .no
  | _ => .no
theorem nil_or {x : Value} {size : Nat} {gd : Bool} {v : Rw} (h : srcR H size x = some (gd, v)) : (x = .slice none 0 0 ∧ v = .lst 0 []) ∨ ∃ a n c, x = .slice (some a) n c := by
  unfold srcR at h
  split at h
  · simp at h; exact .inl ⟨rfl, h.2.symm⟩
  · exact .inr ⟨_, _, _, rfl⟩
  · simp at h
theorem conEq_good {k : IntKind} {f : FuncId}
    (hSS : ∀ (n m : Nat) (p q : Nat → Int), n ≤ 9223372036854775807 → LCalls P f [sl 0 n, sl 1 m] (mkH [some (ints k p n), some (ints k q m)]) (fun u _ => u = .bool (Nat.beq n m && eqU n p q)))
    (hNS : ∀ (m : Nat) (q : Nat → Int), LCalls P f [.slice none 0 0, sl 0 m] (mkH [some (ints k q m)]) (fun u _ => u = .bool (Nat.beq 0 m)))
    (hSN : ∀ (n : Nat) (p : Nat → Int), LCalls P f [sl 0 n, .slice none 0 0] (mkH [some (ints k p n)]) (fun u _ => u = .bool (Nat.beq n 0)))
    (hNN : LCalls P f [.slice none 0 0, .slice none 0 0] (mkH []) (fun u _ => u = .bool true))
    (args : List Value) (ρ : Ren) (args' : List Value) (w : World) (H : Heap) (ha : VRL ρ args args') (hr : Rep ρ H w) : ConGood P ρ f args' w (conEq k H args) := by
  unfold conEq
  split
  · rename_i x y
    simp only [VRL] at ha
    obtain ⟨x', _, hx, ⟨y', _, hy, rfl, rfl⟩, rfl⟩ := ha
    split
    · rename_i g1 u g2 v h1 h2
      refine ⟨fun hg => ?_, fun _ => trivial⟩
      simp only [Bool.and_eq_true] at hg
      obtain ⟨e1, e2, e3, e4, e5⟩ := hg
      have e5' := Nat.le_of_ble_eq_true e5
      refine ⟨_, VR_bool, ?_⟩
      rcases nil_or h1 with ⟨rfl, rfl⟩ | ⟨a, n, c, rfl⟩
      · simp only [VR] at hx; subst hx
        rcases nil_or h2 with ⟨rfl, rfl⟩ | ⟨b, m, d, rfl⟩
        · simp only [VR] at hy; subst hy
          exact calls_ro (ρ := rowsRen []) hNN (by simp [plain]) (by simp [VRL, VR]) (rows_rep (rs := []) rfl (by simp) (by simp) (by simp)) (fun _ => rfl)
        · obtain ⟨hvn, p, hrow⟩ := view_row hr hy h2 e2 e4
          have := calls_ro (ρ := rowsRen [p]) (hNS m v.at) (by simp [plain]) (by simp only [VRL]; exact ⟨.slice none 0 0, [y'], by simp [VR], ⟨y', [], sl_VR hrow (by simp), rfl, rfl⟩, rfl⟩)
            (rows_rep (l := [p]) (rs := [(k, v.at, m)]) rfl (by simp) (by
              intro i q hq
              rcases i with _ | i
              · simp at hq; exact hrow.low q hq
              · simp at hq) (by
              intro i k' f' n' h0 e he
              rcases i with _ | i
              · simp at h0; obtain ⟨rfl, rfl, rfl⟩ := h0
                obtain ⟨q, h3, h4⟩ := hrow.cell e he
                exact ⟨q, by simp [h3], h4⟩
              · simp at h0)) (fun _ => rfl)
          have he : (Nat.beq (Rw.n (.lst 0 [])) v.n && eqU (Rw.n (.lst 0 [])) (Rw.at (.lst 0 [])) v.at) = Nat.beq 0 m := by rw [hvn]; simp [Rw.n, eqU]
          rw [he]
          exact this
      · obtain ⟨hun, p, hrow⟩ := view_row hr hx h1 e1 e3
        rcases nil_or h2 with ⟨rfl, rfl⟩ | ⟨b, m, d, rfl⟩
        · simp only [VR] at hy; subst hy
          have := calls_ro (ρ := rowsRen [p]) (hSN n u.at) (by simp [plain]) (by simp only [VRL]; exact ⟨x', [.slice none 0 0], sl_VR hrow (by simp), ⟨.slice none 0 0, [], by simp [VR], rfl, rfl⟩, rfl⟩)
            (rows_rep (l := [p]) (rs := [(k, u.at, n)]) rfl (by simp) (by
              intro i q hq
              rcases i with _ | i
              · simp at hq; exact hrow.low q hq
              · simp at hq) (by
              intro i k' f' n' h0 e he
              rcases i with _ | i
              · simp at h0; obtain ⟨rfl, rfl, rfl⟩ := h0
                obtain ⟨q, h3, h4⟩ := hrow.cell e he
                exact ⟨q, by simp [h3], h4⟩
              · simp at h0)) (fun _ => rfl)
          rw [show (Nat.beq u.n (Rw.n (.lst 0 [])) && eqU u.n u.at (Rw.at (.lst 0 []))) = Nat.beq n 0 by
            rw [hun]; simp only [Rw.n]
            cases hb : Nat.beq n 0 with
            | false => rfl
            | true => rw [Nat.eq_of_beq_eq_true hb]; rfl]
          exact this
        · obtain ⟨hvn, p2, hrow2⟩ := view_row hr hy h2 e2 e4
          have := calls_ro (ρ := rowsRen [p, p2]) (hSS n m u.at v.at (by rw [← hun]; exact e5')) (by simp [plain]) (by simp only [VRL]; exact ⟨x', [y'], sl_VR hrow (by simp), ⟨y', [], sl_VR hrow2 (by simp), rfl, rfl⟩, rfl⟩)
            (rows_rep (l := [p, p2]) (rs := [(k, u.at, n), (k, v.at, m)]) rfl (by simp) (by
              intro i q hq
              rcases i with _ | _ | i
              · simp at hq; exact hrow.low q hq
              · simp at hq; exact hrow2.low q hq
              · simp at hq) (by
              intro i k' f' n' h0 e he
              rcases i with _ | _ | i
              · simp at h0; obtain ⟨rfl, rfl, rfl⟩ := h0
                obtain ⟨q, h3, h4⟩ := hrow.cell e he
                exact ⟨q, by simp [h3], h4⟩
              · simp at h0; obtain ⟨rfl, rfl, rfl⟩ := h0
                obtain ⟨q, h3, h4⟩ := hrow2.cell e he
                exact ⟨q, by simp [h3], h4⟩
              · simp at h0)) (fun _ => rfl)
          rw [hun, hvn]
          exact this
    · exact trivial
  · exact trivial
end
end Go.Ly
namespace Go.Ly
open Go.RowKit
section
variable {P : Program} {C : Ctx}
theorem HGood_val {f : FuncId} {args : List Value} {v : Value} (ha : plainL args = true) (hv : plain v = true) (h : ∀ w, Calls P f ⟨args⟩ w (fun e w' => e = .returned v ∧ Below w.heap.size w w')) (H : Heap) : HGood P f args H (.val v) := by
  intro ρ args' w hva hr
  obtain rfl := plainL_eq ha hva
  refine (h w).mono ?_
  rintro e w' ⟨rfl, hb⟩
  exact ⟨ρ, v, v, H, rfl, ⟨rfl, rfl⟩, Ren.le_refl _, Fresh.refl _ _, plain_VR v hv, hr.below hb, Below.toKeep hb⟩
def con1 (k : IntKind) (mk : Nat → (Nat → Int) → Bool × Value) (H : Heap) (args : List Value) : ER :=
  match args with
  | [x] =>
    match srcR H 1 x with
    | some (g1, u) => .tst (g1 && (u.ints k && (mk u.n u.at).1)) (.val (mk u.n u.at).2) .no
    | none => .no
  | _ => .no
theorem con1_good {k : IntKind} {f : FuncId} {mk : Nat → (Nat → Int) → Bool × Value} (hp : ∀ n p, plain (mk n p).2 = true)
    (hS : ∀ (n : Nat) (p : Nat → Int), (mk n p).1 = true → LCalls P f [sl 0 n] (mkH [some (ints k p n)]) (fun u _ => u = (mk n p).2))
    (hN : ∀ (p : Nat → Int), LCalls P f [.slice none 0 0] (mkH []) (fun u _ => u = (mk 0 p).2))
    (args : List Value) (ρ : Ren) (args' : List Value) (w : World) (H : Heap) (ha : VRL ρ args args') (hr : Rep ρ H w) : ConGood P ρ f args' w (con1 k mk H args) := by
  unfold con1
  split
  · rename_i x
    simp only [VRL] at ha
    obtain ⟨x', _, hx, rfl, rfl⟩ := ha
    cases h1 : srcR H 1 x with
    | none => exact trivial
    | some gu =>
      obtain ⟨g1, u⟩ := gu
      simp only
      refine ⟨fun hg => ?_, fun _ => trivial⟩
      simp only [Bool.and_eq_true] at hg
      obtain ⟨e1, e3, e5⟩ := hg
      refine ⟨_, plain_VR _ (hp _ _), ?_⟩
      rcases nil_or h1 with ⟨rfl, rfl⟩ | ⟨a, n, c, rfl⟩
      · simp only [VR] at hx; subst hx
        exact calls_ro (ρ := rowsRen []) (hN _) (hp _ _) (by simp [VRL, VR]) (rows_rep (rs := []) rfl (by simp) (by simp) (by simp)) (fun _ => rfl)
      · obtain ⟨hun, p, hrow⟩ := view_row hr hx h1 e1 e3
        rw [hun] at e5 ⊢
        exact calls_ro (ρ := rowsRen [p]) (hS n u.at e5) (hp _ _) (by simp only [VRL]; exact ⟨x', [], sl_VR hrow (by simp), rfl, rfl⟩)
            (rows_rep (l := [p]) (rs := [(k, u.at, n)]) rfl (by simp) (by
              intro i q hq
              rcases i with _ | i
              · simp at hq; exact hrow.low q hq
              · simp at hq) (by
              intro i k' f' n' h0 e he
              rcases i with _ | i
              · simp at h0; obtain ⟨rfl, rfl, rfl⟩ := h0
                obtain ⟨q, h3, h4⟩ := hrow.cell e he
                exact ⟨q, by simp [h3], h4⟩
              · simp at h0)) (fun _ => rfl)
  · exact trivial
end
end Go.Ly
namespace Go.Ly
open Go.RowKit
section
variable {P : Program} {w : World}
theorem ck_row {k : IntKind} {v : Value} (h : CkOk w (.slice [.int k]) v) : v = .slice none 0 0 ∨ ∃ (n : Nat) (f : Nat → Int) (p : Option Plc), RealRow w k f n v p ∧ (∀ e, e < n → (Lit.int k (f e)).wf = true) ∧ n ≤ maxLen := by
  simp only [CkOk] at h
  rcases h with rfl | ⟨a, len, cap, F, rfl, hlc, hcap, hF⟩
  · exact .inl rfl
  · right
    have hF' : ∀ i, i < len → ∃ m, F i = [.int k m] ∧ (Lit.int k m).wf = true ∧ a.block < w.heap.size ∧ a.spot = none ∧ w.cell? (a.add i) = some (.int k m) := by
      intro i hi
      obtain ⟨h1, h2, h3⟩ := hF i hi
      simp only [CksOk, CkOk] at h3
      obtain ⟨v, r, e1, ⟨m, rfl, hw⟩, rfl⟩ := h3
      obtain ⟨h4, h5, h6⟩ := h2 0 (by simp)
      simp only [List.length_cons, List.length_nil, Nat.zero_add, Nat.mul_one, Nat.add_zero] at h6
      exact ⟨m, e1, hw, h4, h5, by rw [h6, e1]; rfl⟩
    refine ⟨len, fun e => intV ((F e)[0]?.getD undef), bif Nat.blt 0 len then some ⟨a.block, a.off, cap⟩ else none, ⟨⟨a, cap, rfl, hlc, fun hn => ?_⟩, fun q hq => ?_, fun e he => ?_⟩, fun e he => ?_, Nat.le_trans hlc hcap⟩
    · have hb : Nat.blt 0 len = true := by rw [Nat.blt_eq]; omega
      rw [hb]
      obtain ⟨m, _, _, _, h5, _⟩ := hF' 0 (by omega)
      refine ⟨_, rfl, ?_, rfl⟩
      cases a; simp_all
    · cases hb : Nat.blt 0 len with
      | false => rw [hb] at hq; cases hq
      | true =>
        rw [hb] at hq; simp only [cond_true, Option.some.injEq] at hq; subst hq
        obtain ⟨m, _, _, h4, _⟩ := hF' 0 (by simpa [Nat.blt_eq] using hb)
        exact h4
    · have hb : Nat.blt 0 len = true := by rw [Nat.blt_eq]; omega
      rw [hb]
      obtain ⟨m, e1, _, _, h5, h6⟩ := hF' e he
      refine ⟨_, rfl, ?_⟩
      have ha : a.add e = ⟨a.block, a.off + e, none⟩ := by
        obtain ⟨ab, ao, ap⟩ := a; simp only at h5; subst h5; exact addr_add ab ao e
      rw [← ha, h6, e1]; rfl
    · obtain ⟨m, e1, hw, _⟩ := hF' e he
      show (Lit.int k (intV ((F e)[0]?.getD undef))).wf = true
      rw [e1]; exact hw
theorem calls_row {f : FuncId} {args : List Value} {v x' : Value} {k : IntKind} {g : Nat → Int} {n : Nat} {p : Option Plc} (h : LCalls P f (args ++ [sl 0 n]) (mkH [some (ints k g n)]) (fun u _ => u = v)) (hv : plain v = true) (ha : plainL args = true) (hrow : RealRow w k g n x' p) :
    Calls P f ⟨args ++ [x']⟩ w (fun e w' => e = .returned v ∧ Below w.heap.size w w') := by
  refine calls_ro (ρ := rowsRen [p]) h hv (VRL.append (plainL_VR _ ha) (by simp only [VRL]; exact ⟨x', [], sl_VR hrow (by simp), rfl, rfl⟩))
    (rows_rep (l := [p]) (rs := [(k, g, n)]) rfl (by simp) (by
      intro i q hq
      rcases i with _ | i
      · simp at hq; exact hrow.low q hq
      · simp at hq) (by
      intro i k' f' n' h0 e he
      rcases i with _ | i
      · simp at h0; obtain ⟨rfl, rfl, rfl⟩ := h0
        obtain ⟨q, h3, h4⟩ := hrow.cell e he
        exact ⟨q, by simp [h3], h4⟩
      · simp at h0)) (fun _ => rfl)
end
end Go.Ly
namespace Go.Ly
open Go.RowKit
section
variable {P : Program} {E : Env} {Q Q' : Value → Heap → Prop}
def guardB (all : Array Oper) (t : Tr Value) (n : Nat) (o : Oper) : Bool :=
  match guardSR all t n o (.done undef H0) .stop with
  | .done _ _ => true
  | _ => false
theorem guardB_wanted (P : Program) {ρ : Ren} {S : St} {g : AF} {all : Array Oper} {o : Oper} (hf : FR ρ S.top g) (h : guardB all S.top.t S.top.fn.ntmps o = true) : Region.wanted o (yielded all g.a.tmps) = true := by
  have hs : (guardSR all S.top.t S.top.fn.ntmps o (.done undef H0) .stop).sat P (fun _ _ => True) := by
    unfold guardB at h
    unfold guardSR at h ⊢
    cases hg : o.guard with
    | none => exact trivial
    | some jw =>
      obtain ⟨j, want⟩ := jw
      rw [hg] at h; simp only at h ⊢
      cases hd : (all.toList[j]?).bind (·.dst) with
      | none => rw [hd] at h; cases h
      | some d =>
        rw [hd] at h; simp only at h ⊢
        cases hb : Nat.blt d S.top.fn.ntmps with
        | false => rw [hb] at h; cases h
        | true =>
          rw [hb] at h; simp only [cond_true] at h ⊢
          revert h
          generalize (S.top.t.get d).getD undef = u
          intro h
          cases u with
          | bool b =>
            have h : (match (bif b == want then SR.done undef H0 else SR.stop) with | .done _ _ => true | _ => false) = true := h
            show (bif b == want then SR.done undef H0 else SR.stop).sat P (fun _ _ => True)
            cases hbw : (b == want) with
            | true => rw [cond_true]; exact trivial
            | false => rw [hbw, cond_false] at h; cases h
          | _ => cases h
  have := guard_sound (P := P) hf hs
  cases hw : Region.wanted o (yielded all g.a.tmps) with
  | true => rfl
  | false => exact (this.2 hw).elim
def callOf (E : Env) (S : St) : Option (Nat × List Value) :=
  match S.top.k with
  | .ops all (o :: l) :: k =>
    bif guardB all S.top.t S.top.fn.ntmps o && dstOk S.top.fn.ntmps o.dst then
      (match evOp E S.H S.top.t o with
      | .call f args => some (f, args)
      | _ => none)
    else none
  | _ => none
def behind (S : St) (v : Value) (H' : Heap) : St :=
  match S.top.k with
  | .ops all (o :: l) :: k => { S with top := { S.top with t := putT S.top.t o.dst v, k := .ops all l :: k }, H := H' }
  | _ => S
theorem MWp.call (hE : E.Ok P) {S : St} {f : Nat} {args : List Value} (h : callOf E S = some (f, args)) (hL : LCalls P f args S.H Q') (hs : ∀ v H', Q' v H' → MWp P (behind S v H') Q) : MWp P S Q := by
  unfold callOf at h
  split at h
  · rename_i all o l k hk
    cases hc : (guardB all S.top.t S.top.fn.ntmps o && dstOk S.top.fn.ntmps o.dst) with
    | false => rw [hc] at h; cases h
    | true =>
      rw [hc] at h; simp only [cond_true] at h
      simp only [Bool.and_eq_true] at hc
      intro ρ w g gs R hr hf hfs hR
      unfold stateWp
      rw [hf.k, hk]
      show wpList P all _ (o :: l) g.a w
      unfold wpList
      rw [guardB_wanted P hf hc.1, if_pos rfl]
      left
      have hgood := evOp_good hE hr hf.t o
      cases he : evOp E S.H S.top.t o with
      | call f' args0 =>
        rw [he] at h hgood
        simp only [Option.some.injEq, Prod.mk.injEq] at h
        obtain ⟨rfl, rfl⟩ := h
        obtain ⟨args', ha, hrun⟩ := hgood
        unfold Oper.wp; rw [hrun]
        simp only [Oper.upon]
        have hcalls : Calls P f' ⟨args'⟩ w (fun e w' => ∃ v', e = .returned v' ∧ afterWp P (.ops all l :: k) (topPost P g.fn gs R) .normal (g.a.put o.dst v') w') := by
          refine (hL ρ args' w ha hr).mono ?_
          rintro e w' ⟨ρ', u, u', H', rfl, hq, h1, h2, h3, h4, h5⟩
          refine ⟨u', rfl, putFr_sound (S := S) (Q := Q) (v := u) (H' := H') (k := .ops all l :: k) (dst := o.dst) ?_ hf hfs h1 h2 h4 h5 h3 hR⟩
          unfold putFr
          rw [hc.2]
          have := hs u H' hq
          unfold behind at this
          rw [hk] at this
          exact this
        refine hcalls.mono ?_
        rintro e w' ⟨v', rfl, h⟩
        exact h
      | _ => rw [he] at h; cases h
  · cases h
def Ends (P : Program) (f : FuncId) (args : List Value) (os : List (Option LO)) (I : List Nat) (v : Value) (nx : Nat) (os' : List (Option LO)) : Prop := LCalls P f args (mkH os) (fun u K => u = v ∧ K.next = nx ∧ I.map K.get = os' ∧ K.lock = 0)
def endsAt (I : List Nat) (r : RO) : Option (List (Bool × Bool) × Value × Nat × List (Option LO)) :=
  match r.end? with
  | some (t, v, K) => some (t, v, K.next, I.map K.get)
  | none => none
theorem MWp.ends {C : Ctx} (hC : C.Ok P) {S : St} {t : List (Bool × Bool)} {v : Value} {nx : Nat} {I : List Nat} {os' : List (Option LO)} (n : Nat) (p : Path) (h : endsAt I (run C n p S) = some (t, v, nx, os')) (ht : trusted t) :
    MWp P S (fun u K => u = v ∧ K.next = nx ∧ I.map K.get = os' ∧ K.lock = 0) := by
  unfold endsAt at h
  split at h
  · rename_i t' v' K he
    simp only [Option.some.injEq, Prod.mk.injEq] at h
    obtain ⟨rfl, rfl, rfl, rfl⟩ := h
    exact MWp.done hC n p he ht ⟨rfl, rfl, rfl, RO.end_lock he⟩
  · cases h
theorem Ends.of_run {C : Ctx} (hC : C.Ok P) {f : FuncId} {fn : Func} {args : List Value} {os : List (Option LO)} {t : List (Bool × Bool)} {v : Value} {nx : Nat} {I : List Nat} {os' : List (Option LO)} (n : Nat) (p : Path) (hf : C.fn.get f = some fn)
    (hl : (Nat.ble args.length fn.ntmps && Nat.blt fn.ntmps 1000000) = true) (h : endsAt I (run C n p (start fn args (mkH os))) = some (t, v, nx, os')) (ht : trusted t) : Ends P f args os I v nx os' :=
  LCalls_of hC hf hl (MWp.ends hC n p h ht)
end
end Go.Ly
namespace Go.Ly
open Go.RowKit
section
variable {P : Program} {C : Ctx} {leaf : Value → Heap → ER}
def ownB (H : Heap) (b : Nat) : Bool := match H.get b with | some o => o.own | none => false
def ansB (H : Heap) : Value → Bool
  | .pointer (some a) => ownB H a.block
  | v => plain v
end
end Go.Ly
namespace Go.Ly
open Go.RowKit
section
variable {P : Program} {C : Ctx} {Q : Value → Heap → Prop}
def keepV (keep : List Nat) (n : Nat) (t : Tr Value) : List Value := (List.range n).map fun i => bif memB keep i then (t.get i).getD undef else anyV
def atSt (fn : Func) (k : List KI) (dst : Option Tmp) (base : Nat) (vals : List Value) (H : Heap) : St := { top := { fn := fn, t := trArgs vals 0 .nil, k := k, dst := dst }, rest := [], H := H, base := base }
def haltF (keep : List Nat) (d : St) (r : RO) : Bool × List (Bool × Bool) × Bool × (Func × List KI × Option Tmp × Nat) × List Value × Heap := (r.isHalt, r.trust, (r.st d).rest.isEmpty && Nat.blt (r.st d).top.fn.ntmps 1000000, ((r.st d).top.fn, (r.st d).top.k, (r.st d).top.dst, (r.st d).base), keepV keep (r.st d).top.fn.ntmps (r.st d).top.t, (r.st d).H)
theorem MWp.forget (keep : List Nat) {S : St} (hr : S.rest = []) (hn : S.top.fn.ntmps < 1000000) (h : MWp P (atSt S.top.fn S.top.k S.top.dst S.base (keepV keep S.top.fn.ntmps S.top.t) S.H) Q) : MWp P S Q := by
  intro ρ w g gs R hrp hf hfs hR
  rw [hr] at hfs
  have hgs : gs = [] := by simpa [FRL] using hfs
  subst hgs
  have hvl : (keepV keep S.top.fn.ntmps S.top.t).length = S.top.fn.ntmps := by simp [keepV]
  refine h ρ w g [] R hrp ⟨hf.fn, hf.k, hf.dst, ?_⟩ (by simp [atSt, FRL]) hR
  show TR ρ S.top.fn.ntmps (trArgs (keepV keep S.top.fn.ntmps S.top.t) 0 .nil) g.a
  refine ⟨hf.t.size, hf.t.small, fun i => ?_, hf.t.defers⟩
  rw [trArgs_get _ 0 .nil (by rw [hvl]; unfold big; omega)]
  simp only [Nat.zero_le, true_and, Nat.zero_add, Nat.sub_zero]
  have hv := hf.t.val i
  by_cases hi : i < S.top.fn.ntmps
  · rw [if_pos (by rw [hvl]; exact hi)]
    have e : (keepV keep S.top.fn.ntmps S.top.t)[i]? = some (bif memB keep i then (S.top.t.get i).getD undef else anyV) := by simp [keepV, hi]
    rw [e]
    simp only [Option.getD_some]
    cases hk : memB keep i with
    | false => exact VR_any _
    | true => exact hv
  · rw [if_neg (by rw [hvl]; exact hi), Tr.get_nil]
    have : g.a.tmps.getD i undef = undef := by
      rw [Array.getD_eq_getD_getElem?, Array.getElem?_eq_none (by rw [hf.t.size]; omega)]; rfl
    rw [this]; exact VR_undef
theorem MWp.halted (hC : C.Ok P) {S d : St} {t : List (Bool × Bool)} {fn : Func} {k : List KI} {dst : Option Tmp} {base : Nat} {vals : List Value} {H : Heap} (keep : List Nat) (n : Nat) (p : Path)
    (h : haltF keep d (run C n p S) = (true, t, true, (fn, k, dst, base), vals, H)) (htr : trusted t) (hs : MWp P (atSt fn k dst base vals H) Q) : MWp P S Q := by
  simp only [haltF, Prod.mk.injEq, Bool.and_eq_true] at h
  obtain ⟨h1, h2, ⟨h3, h4⟩, ⟨h5, h6, h7, h8⟩, h9, h10⟩ := h
  refine MWp.seg hC (d := d) n p h1 h2 htr (MWp.forget keep ?_ ?_ ?_)
  · simpa using h3
  · simpa [Nat.blt_eq] using h4
  · rw [h9, h10, h6, h7, h8, h5]; exact hs
def LOeq (o o' : LO) : Prop := o = o' ∨ ∃ k g g' n t, o = .fn k g n t ∧ o' = .fn k g' n t ∧ ∀ e j, e < n → j < k → g e j = g' e j
theorem LOeq.own {o o' : LO} (h : LOeq o o') : o'.own = o.own := by
  rcases h with rfl | ⟨k, g, g', n, t, rfl, rfl, _⟩ <;> rfl
theorem LOeq.or {ρ : Ren} {i : Nat} {o o' : LO} {x : Obj} (h : LOeq o o') (ho : OR ρ i o x) : OR ρ i o' x := by
  rcases h with rfl | ⟨k, g, g', n, t, rfl, rfl, he⟩
  · exact ho
  · obtain ⟨h0, hk, c', d', e, e1, e2, hg⟩ := ho
    exact ⟨h0, hk, c', d', e, e1, e2, ⟨fun a j ha hj => by rw [← he a j ha hj]; exact hg.val a j ha hj, fun a j ha hj => by rw [← he a j ha hj]; exact hg.one a j ha hj⟩⟩
def Each2 (R : Option LO → Option LO → Prop) : List (Option LO) → List (Option LO) → Prop
  | [], [] => True
  | a :: r, b :: s => R a b ∧ Each2 R r s
  | _, _ => False
theorem Each2.length {R : Option LO → Option LO → Prop} : ∀ {l m : List (Option LO)}, Each2 R l m → l.length = m.length
  | [], [], _ => rfl
  | _ :: _, _ :: _, h => by simp [Each2.length h.2]
  | [], _ :: _, h => h.elim
  | _ :: _, [], h => h.elim
theorem Each2.get {R : Option LO → Option LO → Prop} : ∀ {l m : List (Option LO)}, Each2 R l m → ∀ (i : Nat) a b, l[i]? = some a → m[i]? = some b → R a b
  | [], [], _, i, a, b, h, _ => by simp at h
  | x :: r, y :: s, h, 0, a, b, h1, h2 => by simp at h1 h2; subst h1 h2; exact h.1
  | x :: r, y :: s, h, i + 1, a, b, h1, h2 => Each2.get h.2 i a b (by simpa using h1) (by simpa using h2)
  | [], _ :: _, h, _, _, _, _, _ => h.elim
  | _ :: _, [], h, _, _, _, _, _ => h.elim
end
end Go.Ly
namespace Go.Ly
open Go.RowKit
mutual
def noTok : Value → Bool
  | .chan (some _) => false
  | .func _ ⟨xs⟩ ⟨ys⟩ => noTokL xs && noTokL ys
  | .iface _ x => noTok x
  | .agg ⟨xs⟩ => noTokL xs
  | .tuple ⟨xs⟩ => noTokL xs
  | _ => true
def noTokL : List Value → Bool
  | [] => true
  | v :: r => noTok v && noTokL r
end
def noTokO : LO → Bool
  | .cells c _ => noTokL c
  | .row c _ _ => noTokL c
  | _ => true
section
variable {P : Program} {ρ : Ren}
end
end Go.Ly
namespace Go.Ly
open Go.RowKit
section
variable {P : Program} {w : World}
structure RealRows (w : World) (k : Nat) (g : Nat → Nat → Value) (n : Nat) (x' : Value) (p : Option Plc) : Prop where
  shape : ∃ a' c', x' = .slice (some a') n c' ∧ n ≤ c' ∧ (n ≠ 0 → ∃ q, p = some q ∧ a' = ⟨q.b, q.o, none⟩ ∧ q.c = c')
  low : ∀ q, p = some q → q.b < w.heap.size
  cell : ∀ e j, e < n → j < k → ∃ q, p = some q ∧ w.cell? ⟨q.b, q.o + (e * k + j), none⟩ = some (g e j)
  one : ∀ e j, e < n → j < k → cst (g e j) = true
end
section
variable {P : Program} {C : Ctx}
end
end Go.Ly
namespace Go.Ly
open Go.RowKit
def VW (v u : Value) : Prop := ∀ ρ v', VR ρ v v' → VR ρ u v'
theorem VW.any (v : Value) : VW v anyV := fun _ v' _ => VR_any v'
def VWL : List Value → List Value → Prop
  | [], l => l = []
  | v :: r, l => ∃ u s, VW v u ∧ VWL r s ∧ l = u :: s
theorem VWL.rel {ρ : Ren} : ∀ {l m l' : List Value}, VWL l m → VRL ρ l l' → VRL ρ m l'
  | [], m, l', h, k => by simp only [VWL] at h; subst h; exact k
  | v :: r, m, l', h, k => by
    obtain ⟨u, s, h1, h2, rfl⟩ := h
    simp only [VRL] at k ⊢
    obtain ⟨v', r', k1, k2, rfl⟩ := k
    exact ⟨v', r', h1 ρ v' k1, VWL.rel h2 k2, rfl⟩
def OW (o u : LO) : Prop := (∃ c c' t, o = .cells c t ∧ u = .cells c' t ∧ VWL c c') ∨ LOeq o u
theorem OW.cells {c c' : List Value} {t : TypeId} (h : VWL c c') : OW (.cells c t) (.cells c' t) := .inl ⟨c, c', t, rfl, rfl, h⟩
theorem OW.own {o u : LO} (h : OW o u) : u.own = o.own := by
  rcases h with ⟨c, c', t, rfl, rfl, _⟩ | h
  · rfl
  · exact h.own
theorem OW.or {ρ : Ren} {i : Nat} {o u : LO} {x : Obj} (h : OW o u) (ho : OR ρ i o x) : OR ρ i u x := by
  rcases h with ⟨c, c', t, rfl, rfl, hw⟩ | h
  · obtain ⟨h0, d, hd, e⟩ := ho
    exact ⟨h0, d, hw.rel hd, e⟩
  · exact h.or ho
structure WeakH (H K : Heap) : Prop where
  next : K.next = H.next
  lock : K.lock = H.lock
  obj : ∀ i o, K.get i = some o → ∃ x, H.get i = some x ∧ OW x o
section
variable {P : Program} {Q Q' : Value → Heap → Prop} {f : FuncId} {args : List Value} {H K : Heap}
theorem LCalls.ltn (h : (∀ i o, H.get i = some o → i < H.next) → H.next < big → LCalls P f args H Q) : LCalls P f args H Q := fun ρ args' w ha hr => h hr.ltn hr.small ρ args' w ha hr
theorem MWp.ltn {S : St} (h : (∀ i o, S.H.get i = some o → i < S.H.next) → S.H.next < big → MWp P S Q) : MWp P S Q := fun ρ w g gs R hr => h hr.ltn hr.small ρ w g gs R hr
structure Sit (H : Heap) (os : List (Option LO)) (L : List Nat) : Prop where
  lock : H.lock = 0
  len : L.length = os.length
  nd : L.Nodup
  at_ : ∀ i o, os[i]? = some (some o) → H.get (sg L i) = some (renO (tau L H.next) o)
end
end Go.Ly
namespace Go.Ly
open Go.RowKit
def Clean (H : Heap) : Prop := ∀ i o, H.get i = some o → noTokO o = true
section
variable {P : Program} {f : FuncId} {args : List Value} {H : Heap}
structure Made (H : Heap) (os : List (Option LO)) (L I : List Nat) (nx : Nat) (os' : List (Option LO)) (H' : Heap) : Prop where
  lock : H'.lock = 0
  next : H'.next = H.next + (nx - os.length)
  now : ∀ (j i : Nat) (o : Option LO), I[j]? = some i → os'[j]? = some o → H'.get (tau L H.next i) = o
  old : ∀ k, k < H.next → k ∉ L → H'.get k = H.get k
  clean : Clean H'
end
section
variable {P : Program} {ρ : Ren} {H : Heap} {w w' : World}
theorem GR.any {ρ' : Ren} {k n off : Nat} {g : Nat → Nat → Value} {c : List Value} (h : GR ρ k g n off c) : GR ρ' k g n off c :=
  ⟨fun e j he hj => by
    obtain ⟨v', h1, h2⟩ := h.val e j he hj
    exact ⟨v', h1, VR_cst (h.one e j he hj) h2⟩, h.one⟩
theorem Rep.extNew (hr : Rep ρ H w) (hn : H.next + 1 < big) {o : LO} {o' : Obj} {b k wd : Nat} (hown : o.own = true) (hb : b < w.heap.size) (hnew : ∀ i, ρ i ≠ some b) (hw : w.heap[b]? = some o') (ho : OR (ρ.ext H.next b k wd) H.next o o') :
    Rep (ρ.ext H.next b k wd) (H.new o) w := by
  have hget : ∀ i, (H.new o).get i = if i = H.next then some o else H.get i := fun i => Tr.get_set _ _ _ hr.small i
  have hn1 : (H.new o).next = H.next + 1 := rfl
  have hle := hr.ext_le b k wd
  refine ⟨hn, ?_, ?_, ?_, ?_, ?_⟩
  · intro i x h
    simp only [Ren.ext] at h
    rw [hn1]
    split at h
    · rename_i e; subst e; simp at h; subst h; exact ⟨by omega, hb⟩
    · have := hr.dom i x h; exact ⟨by omega, this.2⟩
  · intro i j y x hi hx hj h1 h2
    rw [hget] at hi hj
    simp only [Ren.ext] at h1 h2
    by_cases e1 : i = H.next <;> by_cases e2 : j = H.next
    · omega
    · rw [if_pos e1] at h1; rw [if_neg e2] at h2; simp at h1; subst h1; exact absurd h2 (hnew j)
    · rw [if_neg e1] at h1; rw [if_pos e2] at h2; simp at h2; subst h2; exact absurd h1 (hnew i)
    · rw [if_neg e1] at h1 hi; rw [if_neg e2] at h2 hj; exact hr.inj i j y x hi hx hj h1 h2
  · intro i x hx
    rw [hget] at hx
    rw [hn1]
    by_cases e : i = H.next
    · omega
    · rw [if_neg e] at hx; have := hr.lt hx; omega
  · intro i x hx hxo
    rw [hget] at hx
    by_cases e : i = H.next
    · rw [if_pos e] at hx; simp at hx; subst hx; subst e
      exact ⟨fun _ => by simp [Ren.ext], b, o', by simp [Ren.ext], hw, ho⟩
    · rw [if_neg e] at hx
      obtain ⟨q1, y, oy, q2, q3, q4⟩ := hr.obj i x hx hxo
      have hs := hle i y q2
      refine ⟨fun hl => by rw [hs.ro]; exact q1 hl, y, oy, by rw [hs.b]; exact q2, q3, q4.mono hle ?_ ?_ ?_⟩
      · exact hs.cap
      · exact hs.off
      · exact hs.wd
  · intro i k' g n hx
    rw [hget] at hx
    by_cases e : i = H.next
    · rw [if_pos e] at hx; simp at hx; subst hx; simp [LO.own] at hown
    · rw [if_neg e] at hx
      obtain ⟨q1, q2⟩ := hr.arg i k' g n hx
      refine ⟨by simp [Ren.ext, e]; exact q1, q2.mono hle ?_⟩
      simp [Ren.ext, e]
end
section
variable {P : Program} {Q : Value → Heap → Prop} {f : FuncId} {args : List Value}
end
end Go.Ly
namespace Go.Ly
open Go.RowKit
section
variable {P : Program} {E : Env} {ρ : Ren} {H : Heap} {w : World}
def Ren.see (ρ : Ren) (i b c : Nat) : Ren :=
  ⟨fun j => if j = i then some b else ρ j, fun j => if j = i then c else ρ.cap j, fun j => if j = i then true else ρ.ro j, fun j => if j = i then 0 else ρ.off j, fun j => if j = i then 1 else ρ.wd j, ρ.tok⟩
theorem see_le (hr : Rep ρ H w) (b c : Nat) : Ren.le ρ (ρ.see H.next b c) := ⟨fun j x e => by
  have : j ≠ H.next := by have := (hr.dom j x e).1; omega
  exact ⟨by simp [Ren.see, this], by simp [Ren.see, this], by simp [Ren.see, this], by simp [Ren.see, this], by simp [Ren.see, this]⟩, rfl⟩
def convH (H : Heap) (i : Nat) (cs : List Value) : Heap := { m := (H.m.set i none).set H.next (some (.arg 1 (fun e _ => cs[e]?.getD undef) cs.length)), next := H.next + 1, lock := H.lock }
theorem freeze_at (w : World) (b n : Nat) {o : Obj} (j : Nat) (h : j ≠ b) : (w.freeze ⟨b, n, none⟩ 1).heap[j]? = w.heap[j]? := by
  unfold World.freeze
  rw [if_neg (by decide)]
  show (w.heap.modify b _)[j]? = _
  rw [Array.getElem?_modify, if_neg (fun e => h e.symm)]
theorem freeze_size (w : World) (b n : Nat) : (w.freeze ⟨b, n, none⟩ 1).heap.size = w.heap.size := by
  unfold World.freeze
  rw [if_neg (by decide)]
  show (w.heap.modify b _).size = _
  rw [Array.size_modify]
theorem conv_good (hE : E.Ok P) (hr : Rep ρ H w) (hl : H.lock = 0) (hb : H.next + 1 < big) {s e t : TypeId} {i q : TI} {a n c : Nat} {cs : List Value} {x' : Value}
    (hs : E.ty.get s = some i) (hsd : i.desc = .slice e) (he : E.ty.get e = some q) (hed : q.desc = .int .u8) (ho : H.get a = some (.cells cs t)) (hc : cs.all cst = true) (hn : n ≠ 0) (hnc : n ≤ cs.length) (hcc : c ≠ capU) (hx : VR ρ (.slice (some ⟨a, 0, none⟩) n c) x') :
    Next.Good P ρ w (valued ((convert s s x').run P w)) (.mem (.slice (some ⟨H.next, 0, none⟩) n c) (convH H a cs)) := by
  obtain ⟨hu, _, _⟩ := hE.ty s i hs
  obtain ⟨hv, _, _⟩ := hE.ty e q he
  rw [hsd] at hu; rw [hed] at hv
  simp only [VR] at hx
  obtain ⟨a', c', rfl, h2, h3, h4⟩ := hx
  obtain ⟨b, hab, rfl, _⟩ := h4 hn
  have h3' := h3 hcc
  subst h3'
  obtain ⟨hro, b', o', hab', hbo, hor⟩ := hr.obj a _ ho rfl
  have hbb : b' = b := by rw [hab] at hab'; exact (Option.some.inj hab').symm
  subst hbb
  obtain ⟨hoff, c1, hv1, rfl⟩ := hor
  have hro0 : ρ.ro a = false := hro (by rw [hl]; exact Nat.zero_le _)
  have hat : ρ.at ⟨a, 0, none⟩ = 0 := by simp [Ren.at, hoff]
  have hlen : c1.length = cs.length := VRL.length hv1
  have han : a < H.next := hr.ltn a _ ho
  have hsz : b' < w.heap.size := (hr.dom a b' hab).2
  have hget : ∀ j, (convH H a cs).get j = if j = H.next then some (.arg 1 (fun e _ => cs[e]?.getD undef) cs.length) else if j = a then none else H.get j := by
    intro j
    show ((H.m.set a none).set H.next _).get j = _
    rw [Tr.get_set _ _ _ (by unfold big at *; omega) j]
    by_cases hj : j = H.next
    · simp [hj]
    · rw [if_neg hj, if_neg hj, Tr.get_set _ _ _ (by unfold big at *; omega) j]; rfl
  let w' := w.freeze ⟨b', c1.length, none⟩ 1
  have hw' : ∀ j, j ≠ b' → w'.heap[j]? = w.heap[j]? := fun j hj => freeze_at w b' _ (o := .cells ⟨c1⟩ t (0, 0)) j hj
  have hwb : ∀ p : Addr, p.block = b' → w'.cell? p = w.cell? p := fun p hp => by
    unfold World.cell?
    have : w'.heap[b']? = some (.cells ⟨c1⟩ t (c1.length, c1.length + 1)) := by
      show (w.freeze _ 1).heap[b']? = _
      unfold World.freeze
      rw [if_neg (by decide)]
      show (w.heap.modify b' _)[b']? = _
      rw [Array.getElem?_modify, if_pos rfl, hbo]
      rfl
    rw [hp, this, hbo]
  have hrun : (convert s s (.slice (some ⟨b', ρ.at ⟨a, 0, none⟩, none⟩) n c')).run P w = .ok (.slice (some ⟨b', ρ.at ⟨a, 0, none⟩, none⟩) n c') w' := by
    have hsh : w.shape? b' = some (t, c1.length) := by unfold World.shape?; rw [hbo]; rfl
    simp [convert, run_underlying hu, run_underlying hv, markStringish, hsh]
    rfl
  refine ⟨ρ.see H.next b' c', _, w', see_le hr b' c', ?_, ?_, by rw [hrun]; rfl, ⟨hb, ?_, ?_, ?_, ?_, ?_⟩, ⟨rfl, rfl, rfl, by rw [freeze_size]; exact Nat.le_refl _, ?_⟩⟩
  · intro j x hx
    simp only [Ren.see] at hx
    by_cases hj : j = H.next
    · rw [if_pos hj] at hx
      simp only [Option.some.injEq] at hx; subst hx
      exact .inr ⟨a, hab, fun h => by simp [Ren.see, hj] at h⟩
    · rw [if_neg hj] at hx
      exact .inr ⟨j, hx, fun h => by simpa [Ren.see, hj] using h⟩
  · simp only [VR]
    exact ⟨⟨b', ρ.at ⟨a, 0, none⟩, none⟩, c', rfl, h2, fun _ => rfl, fun _ => ⟨b', by simp [Ren.see], by rw [hat]; simp [Ren.at, Ren.see], fun hh => absurd hh hcc⟩⟩
  · intro j x hx
    simp only [Ren.see] at hx
    show j < H.next + 1 ∧ x < w'.heap.size
    rw [freeze_size]
    by_cases hj : j = H.next
    · rw [if_pos hj] at hx
      simp only [Option.some.injEq] at hx; subst hx
      exact ⟨by omega, hsz⟩
    · rw [if_neg hj] at hx
      have := hr.dom j x hx
      exact ⟨by omega, this.2⟩
  · intro j k x o hj hoo hk h1 h2
    rw [hget] at hj hk
    have hjn : j ≠ H.next := by
      intro e; rw [if_pos e] at hj; simp only [Option.some.injEq] at hj; subst hj; cases hoo
    rw [if_neg hjn] at hj
    have hja : j ≠ a := by intro e; rw [if_pos e] at hj; cases hj
    rw [if_neg hja] at hj
    have h1' : ρ j = some x := by simpa [Ren.see, hjn] using h1
    by_cases hkn : k = H.next
    · have : x = b' := by have : (ρ.see H.next b' c') k = some b' := by simp [Ren.see, hkn]
                          rw [this] at h2; exact (Option.some.inj h2).symm
      subst this
      exact absurd (hr.inj j a x o hj hoo (by rw [ho]; rfl) h1' hab) hja
    · rw [if_neg hkn] at hk
      have hka : k ≠ a := by intro e; rw [if_pos e] at hk; cases hk
      rw [if_neg hka] at hk
      exact hr.inj j k x o hj hoo hk h1' (by simpa [Ren.see, hkn] using h2)
  · intro j o hj
    rw [hget] at hj
    show j < H.next + 1
    by_cases hjn : j = H.next
    · omega
    · rw [if_neg hjn] at hj
      by_cases hja : j = a
      · omega
      · rw [if_neg hja] at hj
        have := hr.ltn j o hj; omega
  · intro j o hj hoo
    rw [hget] at hj
    have hjn : j ≠ H.next := by
      intro e; rw [if_pos e] at hj; simp only [Option.some.injEq] at hj; subst hj; cases hoo
    rw [if_neg hjn] at hj
    have hja : j ≠ a := by intro e; rw [if_pos e] at hj; cases hj
    rw [if_neg hja] at hj
    obtain ⟨k1, x, o', k2, k3, k4⟩ := hr.obj j o hj hoo
    have hxb : x ≠ b' := by
      intro e; subst e
      exact hja (hr.inj j a x o hj hoo (by rw [ho]; rfl) k2 hab)
    refine ⟨fun hlk => by simpa [Ren.see, hjn] using k1 hlk, x, o', by simpa [Ren.see, hjn] using k2, by rw [hw' x hxb]; exact k3, OR.mono (see_le hr b' c') (by simp [Ren.see, hjn]) (by simp [Ren.see, hjn]) (by simp [Ren.see, hjn]) o o' k4⟩
  · intro j k g m hj
    rw [hget] at hj
    by_cases hjn : j = H.next
    · rw [if_pos hjn] at hj
      simp only [Option.some.injEq, LO.arg.injEq] at hj
      obtain ⟨rfl, rfl, rfl⟩ := hj
      subst hjn
      refine ⟨by simp [Ren.see], ⟨by simp [Ren.see], fun e j he hj => ?_⟩⟩
      obtain rfl : j = 0 := by omega
      have hce : cs[e]? = some cs[e] := List.getElem?_eq_getElem he
      obtain ⟨v1, hv2, hv3⟩ := VRL.get hv1 e _ hce
      have hcst : cst cs[e] = true := by rw [List.all_eq_true] at hc; exact hc _ (List.getElem_mem he)
      refine ⟨by rw [hce]; exact hcst, b', v1, by simp [Ren.see], ?_, ?_⟩
      · rw [hwb _ rfl]
        unfold World.cell?
        rw [hbo]
        simp [Ren.see]
        exact hv2
      · rw [hce]; exact VR.mono (see_le hr b' c') _ _ hv3
    · rw [if_neg hjn] at hj
      have hja : j ≠ a := by intro e; rw [if_pos e] at hj; cases hj
      rw [if_neg hja] at hj
      obtain ⟨k1, k2⟩ := hr.arg j k g m hj
      refine ⟨by simpa [Ren.see, hjn] using k1, ⟨by simpa [Ren.see, hjn] using k2.wd, fun e jj he hjj => ?_⟩⟩
      obtain ⟨m1, x, v', m2, m3, m4⟩ := k2.cell e jj he hjj
      refine ⟨m1, x, v', by simpa [Ren.see, hjn] using m2, ?_, VR.mono (see_le hr b' c') _ _ m4⟩
      by_cases hxb : x = b'
      · rw [show (ρ.see H.next b' c').off j = ρ.off j by simp [Ren.see, hjn], hwb _ hxb]; exact m3
      · rw [show (ρ.see H.next b' c').off j = ρ.off j by simp [Ren.see, hjn], ← m3]
        unfold World.cell?
        rw [hw' x hxb]
  · intro k hk hro
    refine hw' k fun e => ?_
    subst e
    have := hro a hab
    rw [hro0] at this; cases this
def opConv (E : Env) (S : St) : Option (TypeId × Nat × Nat × Nat) :=
  match S.top.k with
  | .ops all (o :: l) :: k =>
    bif guardB all S.top.t S.top.fn.ntmps o && dstOk S.top.fn.ntmps o.dst then
      (match o.op with
      | .convert s d x => match evx S.top.t x with
        | some (.slice (some ⟨a, 0, none⟩) n c) => bif Nat.beq s d then some (s, a, n, c) else none
        | _ => none
      | _ => none)
    else none
  | _ => none
def isBytes (E : Env) (s : TypeId) : Bool := match E.ty.get s with
  | some i => match i.desc with
    | .slice e => match E.ty.get e with
      | some q => match q.desc with | .int .u8 => true | _ => false
      | none => false
    | _ => false
  | none => false
theorem MWp.conv {Q : Value → Heap → Prop} (hE : E.Ok P) {S : St} {s a n c t : Nat} {cs : List Value} (h : opConv E S = some (s, a, n, c)) (hty : isBytes E s = true) (hl : S.H.lock = 0) (hb : S.H.next + 1 < big)
    (ho : S.H.get a = some (.cells cs t)) (hc : cs.all cst = true) (hn : n ≠ 0) (hnc : n ≤ cs.length) (hcc : c ≠ capU)
    (hs : MWp P (behind S (.slice (some ⟨S.H.next, 0, none⟩) n c) (convH S.H a cs)) Q) : MWp P S Q := by
  unfold opConv at h
  split at h
  · rename_i all o l k hk
    cases hcd : (guardB all S.top.t S.top.fn.ntmps o && dstOk S.top.fn.ntmps o.dst) with
    | false => rw [hcd] at h; cases h
    | true =>
      rw [hcd] at h; simp only [cond_true] at h
      simp only [Bool.and_eq_true] at hcd
      split at h
      · rename_i s1 d x hop
        split at h
        · rename_i a1 n1 c1 hev
          cases hsd : Nat.beq s1 d with
          | false => rw [hsd] at h; cases h
          | true =>
            rw [hsd] at h
            simp only [cond_true, Option.some.injEq, Prod.mk.injEq] at h
            obtain ⟨rfl, rfl, rfl, rfl⟩ := h
            have hsd' := Nat.eq_of_beq_eq_true hsd
            subst hsd'
            unfold isBytes at hty
            split at hty
            · rename_i i hi
              split at hty
              · rename_i e hid
                split at hty
                · rename_i q hq
                  split at hty
                  · rename_i hqd
                    intro ρ w g gs R hr hf hfs hR
                    unfold stateWp
                    rw [hf.k, hk]
                    show wpList P all _ (o :: l) g.a w
                    unfold wpList
                    rw [guardB_wanted P hf hcd.1, if_pos rfl]
                    left
                    have hgood := conv_good (P := P) hE hr hl hb hi hid hq hqd ho hc hn hnc hcc (evx_VR hf.t hev)
                    obtain ⟨ρ', v', w', h1, h2, h3, h4, h5, h6⟩ := hgood
                    unfold Oper.wp
                    have hrun : (execOp g.a.eval o).run P w = .ok (.value v') w' := by
                      rw [← h4]
                      unfold execOp
                      rw [hop]
                      exact run_v _
                    rw [hrun]
                    simp only [Oper.upon]
                    refine putFr_sound (S := S) (Q := Q) (v := .slice (some ⟨S.H.next, 0, none⟩) n1 c1) (H' := convH S.H a1 cs) (k := .ops all l :: k) (dst := o.dst) ?_ hf hfs h1 h2 h5 h6 h3 hR
                    unfold putFr
                    rw [hcd.2]
                    unfold behind at hs
                    rw [hk] at hs
                    exact hs
                  · cases hty
                · cases hty
              · cases hty
            · cases hty
        · cases h
      · cases h
  · cases h
end
end Go.Ly
namespace Go.Proofs.Ytkemllgkkngcjaa
open Go.Ly
def tys : List (Nat × TI) := [ (0, ⟨Try.t0.desc, Try.t0.size, Try.t0.zero, Try.t0.bytes, false⟩), (1, ⟨Try.t1.desc, Try.t1.size, Try.t1.zero, Try.t1.bytes, false⟩), (2, ⟨Try.t2.desc, Try.t2.size, Try.t2.zero, Try.t2.bytes, false⟩), (3, ⟨Try.t3.desc, Try.t3.size, Try.t3.zero, Try.t3.bytes, false⟩), (4, ⟨Try.t4.desc, Try.t4.size, Try.t4.zero, Try.t4.bytes, false⟩), (5, ⟨Try.t5.desc, Try.t5.size, Try.t5.zero, Try.t5.bytes, false⟩), (6, ⟨Try.t5.desc, Try.t6.size, Try.t6.zero, Try.t6.bytes, false⟩), (7, ⟨Try.t7.desc, Try.t7.size, Try.t7.zero, Try.t7.bytes, false⟩), (8, ⟨Try.t7.desc, Try.t8.size, Try.t8.zero, Try.t8.bytes, false⟩), (9, ⟨Try.t9.desc, Try.t9.size, Try.t9.zero, Try.t9.bytes, false⟩), (10, ⟨Try.t9.desc, Try.t10.size, Try.t10.zero, Try.t10.bytes, false⟩), (11, ⟨Try.t9.desc, Try.t11.size, Try.t11.zero, Try.t11.bytes, false⟩), (12, ⟨Try.t12.desc, Try.t12.size, Try.t12.zero, Try.t12.bytes, false⟩), (13, ⟨Try.t13.desc, Try.t13.size, Try.t13.zero, Try.t13.bytes, false⟩), (14, ⟨Try.t13.desc, Try.t14.size, Try.t14.zero, Try.t14.bytes, false⟩), (15, ⟨Try.t15.desc, Try.t15.size, Try.t15.zero, Try.t15.bytes, false⟩), (16, ⟨Try.t16.desc, Try.t16.size, Try.t16.zero, Try.t16.bytes, false⟩), (17, ⟨Try.t17.desc, Try.t17.size, Try.t17.zero, Try.t17.bytes, false⟩), (18, ⟨Try.t18.desc, Try.t18.size, Try.t18.zero, Try.t18.bytes, false⟩), (19, ⟨Try.t18.desc, Try.t19.size, Try.t19.zero, Try.t19.bytes, false⟩), (20, ⟨Try.t20.desc, Try.t20.size, Try.t20.zero, Try.t20.bytes, false⟩), (21, ⟨Try.t21.desc, Try.t21.size, Try.t21.zero, Try.t21.bytes, false⟩), (22, ⟨Try.t22.desc, Try.t22.size, Try.t22.zero, Try.t22.bytes, false⟩), (23, ⟨Try.t23.desc, Try.t23.size, Try.t23.zero, Try.t23.bytes, false⟩), (24, ⟨Try.t24.desc, Try.t24.size, Try.t24.zero, Try.t24.bytes, false⟩), (25, ⟨Try.t25.desc, Try.t25.size, Try.t25.zero, Try.t25.bytes, false⟩), (26, ⟨Try.t25.desc, Try.t26.size, Try.t26.zero, Try.t26.bytes, true⟩), (27, ⟨Try.t3.desc, Try.t27.size, Try.t27.zero, Try.t27.bytes, false⟩), (28, ⟨Try.t28.desc, Try.t28.size, Try.t28.zero, Try.t28.bytes, false⟩), (29, ⟨Try.t29.desc, Try.t29.size, Try.t29.zero, Try.t29.bytes, false⟩), (30, ⟨Try.t30.desc, Try.t30.size, Try.t30.zero, Try.t30.bytes, false⟩), (31, ⟨Try.t31.desc, Try.t31.size, Try.t31.zero, Try.t31.bytes, false⟩), (32, ⟨Try.t32.desc, Try.t32.size, Try.t32.zero, Try.t32.bytes, false⟩), (33, ⟨Try.t33.desc, Try.t33.size, Try.t33.zero, Try.t33.bytes, false⟩), (34, ⟨Try.t25.desc, Try.t34.size, Try.t34.zero, Try.t34.bytes, true⟩), (35, ⟨Try.t35.desc, Try.t35.size, Try.t35.zero, Try.t35.bytes, false⟩), (36, ⟨Try.t36.desc, Try.t36.size, Try.t36.zero, Try.t36.bytes, false⟩), (37, ⟨Try.t37.desc, Try.t37.size, Try.t37.zero, Try.t37.bytes, false⟩), (38, ⟨Try.t38.desc, Try.t38.size, Try.t38.zero, Try.t38.bytes, false⟩), (39, ⟨Try.t39.desc, Try.t39.size, Try.t39.zero, Try.t39.bytes, false⟩), (40, ⟨Try.t40.desc, Try.t40.size, Try.t40.zero, Try.t40.bytes, false⟩), (41, ⟨Try.t41.desc, Try.t41.size, Try.t41.zero, Try.t41.bytes, false⟩), (42, ⟨Try.t42.desc, Try.t42.size, Try.t42.zero, Try.t42.bytes, false⟩), (43, ⟨Try.t43.desc, Try.t43.size, Try.t43.zero, Try.t43.bytes, false⟩), (44, ⟨Try.t44.desc, Try.t44.size, Try.t44.zero, Try.t44.bytes, false⟩), (45, ⟨Try.t44.desc, Try.t45.size, Try.t45.zero, Try.t45.bytes, false⟩), (46, ⟨Try.t46.desc, Try.t46.size, Try.t46.zero, Try.t46.bytes, false⟩), (47, ⟨Try.t47.desc, Try.t47.size, Try.t47.zero, Try.t47.bytes, false⟩), (48, ⟨Try.t48.desc, Try.t48.size, Try.t48.zero, Try.t48.bytes, false⟩), (49, ⟨Try.t49.desc, Try.t49.size, Try.t49.zero, Try.t49.bytes, false⟩), (50, ⟨Try.t50.desc, Try.t50.size, Try.t50.zero, Try.t50.bytes, false⟩), (51, ⟨Try.t51.desc, Try.t51.size, Try.t51.zero, Try.t51.bytes, false⟩), (52, ⟨Try.t52.desc, Try.t52.size, Try.t52.zero, Try.t52.bytes, false⟩), (53, ⟨Try.t53.desc, Try.t53.size, Try.t53.zero, Try.t53.bytes, false⟩), (54, ⟨Try.t54.desc, Try.t54.size, Try.t54.zero, Try.t54.bytes, false⟩), (55, ⟨Try.t55.desc, Try.t55.size, Try.t55.zero, Try.t55.bytes, false⟩), (56, ⟨Try.t56.desc, Try.t56.size, Try.t56.zero, Try.t56.bytes, false⟩), (57, ⟨Try.t57.desc, Try.t57.size, Try.t57.zero, Try.t57.bytes, false⟩), (58, ⟨Try.t58.desc, Try.t58.size, Try.t58.zero, Try.t58.bytes, false⟩), (59, ⟨Try.t59.desc, Try.t59.size, Try.t59.zero, Try.t59.bytes, false⟩), (60, ⟨Try.t60.desc, Try.t60.size, Try.t60.zero, Try.t60.bytes, false⟩), (61, ⟨Try.t61.desc, Try.t61.size, Try.t61.zero, Try.t61.bytes, false⟩), (62, ⟨Try.t61.desc, Try.t62.size, Try.t62.zero, Try.t62.bytes, false⟩), (63, ⟨Try.t63.desc, Try.t63.size, Try.t63.zero, Try.t63.bytes, false⟩), (64, ⟨Try.t64.desc, Try.t64.size, Try.t64.zero, Try.t64.bytes, false⟩), (65, ⟨Try.t64.desc, Try.t65.size, Try.t65.zero, Try.t65.bytes, false⟩), (66, ⟨Try.t66.desc, Try.t66.size, Try.t66.zero, Try.t66.bytes, false⟩), (67, ⟨Try.t5.desc, Try.t67.size, Try.t67.zero, Try.t67.bytes, false⟩), (68, ⟨Try.t5.desc, Try.t68.size, Try.t68.zero, Try.t68.bytes, false⟩), (69, ⟨Try.t69.desc, Try.t69.size, Try.t69.zero, Try.t69.bytes, false⟩), (70, ⟨Try.t70.desc, Try.t70.size, Try.t70.zero, Try.t70.bytes, false⟩), (71, ⟨Try.t21.desc, Try.t71.size, Try.t71.zero, Try.t71.bytes, false⟩), (72, ⟨Try.t21.desc, Try.t72.size, Try.t72.zero, Try.t72.bytes, false⟩), (73, ⟨Try.t73.desc, Try.t73.size, Try.t73.zero, Try.t73.bytes, false⟩), (74, ⟨Try.t73.desc, Try.t74.size, Try.t74.zero, Try.t74.bytes, false⟩), (75, ⟨Try.t75.desc, Try.t75.size, Try.t75.zero, Try.t75.bytes, false⟩)]
def fns : List (Nat × Func) := [(3, Try.f3), (4, Try.f4), (5, Try.f5), (6, Try.f6), (7, Try.f7), (8, Try.f8), (9, Try.f9), (10, Try.f10), (11, Try.f11), (12, Try.f12), (13, Try.f13), (14, Try.f14), (15, Try.f15), (16, Try.f16), (17, Try.f17), (18, Try.f18), (19, Try.f19), (20, Try.f20), (21, Try.f21), (22, Try.f22), (23, Try.f23), (24, Try.f24), (25, Try.f25), (26, Try.f26), (27, Try.f27), (28, Try.f28), (29, Try.f29), (30, Try.f30), (31, Try.f31)]
theorem ty0 : TyOk Try.prog 0 ⟨Try.t0.desc, Try.t0.size, Try.t0.zero, Try.t0.bytes, false⟩ := ⟨by kernel_rfl, ⟨Try.t0, by kernel_rfl, rfl, rfl, rfl⟩, fun h => (by cases h)⟩
theorem ty1 : TyOk Try.prog 1 ⟨Try.t1.desc, Try.t1.size, Try.t1.zero, Try.t1.bytes, false⟩ := ⟨by kernel_rfl, ⟨Try.t1, by kernel_rfl, rfl, rfl, rfl⟩, fun h => (by cases h)⟩
theorem ty2 : TyOk Try.prog 2 ⟨Try.t2.desc, Try.t2.size, Try.t2.zero, Try.t2.bytes, false⟩ := ⟨by kernel_rfl, ⟨Try.t2, by kernel_rfl, rfl, rfl, rfl⟩, fun h => (by cases h)⟩
theorem ty3 : TyOk Try.prog 3 ⟨Try.t3.desc, Try.t3.size, Try.t3.zero, Try.t3.bytes, false⟩ := ⟨by kernel_rfl, ⟨Try.t3, by kernel_rfl, rfl, rfl, rfl⟩, fun h => (by cases h)⟩
theorem ty4 : TyOk Try.prog 4 ⟨Try.t4.desc, Try.t4.size, Try.t4.zero, Try.t4.bytes, false⟩ := ⟨by kernel_rfl, ⟨Try.t4, by kernel_rfl, rfl, rfl, rfl⟩, fun h => (by cases h)⟩
theorem ty5 : TyOk Try.prog 5 ⟨Try.t5.desc, Try.t5.size, Try.t5.zero, Try.t5.bytes, false⟩ := ⟨by kernel_rfl, ⟨Try.t5, by kernel_rfl, rfl, rfl, rfl⟩, fun h => (by cases h)⟩
theorem ty6 : TyOk Try.prog 6 ⟨Try.t5.desc, Try.t6.size, Try.t6.zero, Try.t6.bytes, false⟩ := ⟨by kernel_rfl, ⟨Try.t6, by kernel_rfl, rfl, rfl, rfl⟩, fun h => (by cases h)⟩
theorem ty7 : TyOk Try.prog 7 ⟨Try.t7.desc, Try.t7.size, Try.t7.zero, Try.t7.bytes, false⟩ := ⟨by kernel_rfl, ⟨Try.t7, by kernel_rfl, rfl, rfl, rfl⟩, fun h => (by cases h)⟩
theorem ty8 : TyOk Try.prog 8 ⟨Try.t7.desc, Try.t8.size, Try.t8.zero, Try.t8.bytes, false⟩ := ⟨by kernel_rfl, ⟨Try.t8, by kernel_rfl, rfl, rfl, rfl⟩, fun h => (by cases h)⟩
theorem ty9 : TyOk Try.prog 9 ⟨Try.t9.desc, Try.t9.size, Try.t9.zero, Try.t9.bytes, false⟩ := ⟨by kernel_rfl, ⟨Try.t9, by kernel_rfl, rfl, rfl, rfl⟩, fun h => (by cases h)⟩
theorem ty10 : TyOk Try.prog 10 ⟨Try.t9.desc, Try.t10.size, Try.t10.zero, Try.t10.bytes, false⟩ := ⟨by kernel_rfl, ⟨Try.t10, by kernel_rfl, rfl, rfl, rfl⟩, fun h => (by cases h)⟩
theorem ty11 : TyOk Try.prog 11 ⟨Try.t9.desc, Try.t11.size, Try.t11.zero, Try.t11.bytes, false⟩ := ⟨by kernel_rfl, ⟨Try.t11, by kernel_rfl, rfl, rfl, rfl⟩, fun h => (by cases h)⟩
theorem ty12 : TyOk Try.prog 12 ⟨Try.t12.desc, Try.t12.size, Try.t12.zero, Try.t12.bytes, false⟩ := ⟨by kernel_rfl, ⟨Try.t12, by kernel_rfl, rfl, rfl, rfl⟩, fun h => (by cases h)⟩
theorem ty13 : TyOk Try.prog 13 ⟨Try.t13.desc, Try.t13.size, Try.t13.zero, Try.t13.bytes, false⟩ := ⟨by kernel_rfl, ⟨Try.t13, by kernel_rfl, rfl, rfl, rfl⟩, fun h => (by cases h)⟩
theorem ty14 : TyOk Try.prog 14 ⟨Try.t13.desc, Try.t14.size, Try.t14.zero, Try.t14.bytes, false⟩ := ⟨by kernel_rfl, ⟨Try.t14, by kernel_rfl, rfl, rfl, rfl⟩, fun h => (by cases h)⟩
theorem ty15 : TyOk Try.prog 15 ⟨Try.t15.desc, Try.t15.size, Try.t15.zero, Try.t15.bytes, false⟩ := ⟨by kernel_rfl, ⟨Try.t15, by kernel_rfl, rfl, rfl, rfl⟩, fun h => (by cases h)⟩
theorem ty16 : TyOk Try.prog 16 ⟨Try.t16.desc, Try.t16.size, Try.t16.zero, Try.t16.bytes, false⟩ := ⟨by kernel_rfl, ⟨Try.t16, by kernel_rfl, rfl, rfl, rfl⟩, fun h => (by cases h)⟩
theorem ty17 : TyOk Try.prog 17 ⟨Try.t17.desc, Try.t17.size, Try.t17.zero, Try.t17.bytes, false⟩ := ⟨by kernel_rfl, ⟨Try.t17, by kernel_rfl, rfl, rfl, rfl⟩, fun h => (by cases h)⟩
theorem ty18 : TyOk Try.prog 18 ⟨Try.t18.desc, Try.t18.size, Try.t18.zero, Try.t18.bytes, false⟩ := ⟨by kernel_rfl, ⟨Try.t18, by kernel_rfl, rfl, rfl, rfl⟩, fun h => (by cases h)⟩
theorem ty19 : TyOk Try.prog 19 ⟨Try.t18.desc, Try.t19.size, Try.t19.zero, Try.t19.bytes, false⟩ := ⟨by kernel_rfl, ⟨Try.t19, by kernel_rfl, rfl, rfl, rfl⟩, fun h => (by cases h)⟩
theorem ty20 : TyOk Try.prog 20 ⟨Try.t20.desc, Try.t20.size, Try.t20.zero, Try.t20.bytes, false⟩ := ⟨by kernel_rfl, ⟨Try.t20, by kernel_rfl, rfl, rfl, rfl⟩, fun h => (by cases h)⟩
theorem ty21 : TyOk Try.prog 21 ⟨Try.t21.desc, Try.t21.size, Try.t21.zero, Try.t21.bytes, false⟩ := ⟨by kernel_rfl, ⟨Try.t21, by kernel_rfl, rfl, rfl, rfl⟩, fun h => (by cases h)⟩
theorem ty22 : TyOk Try.prog 22 ⟨Try.t22.desc, Try.t22.size, Try.t22.zero, Try.t22.bytes, false⟩ := ⟨by kernel_rfl, ⟨Try.t22, by kernel_rfl, rfl, rfl, rfl⟩, fun h => (by cases h)⟩
theorem ty23 : TyOk Try.prog 23 ⟨Try.t23.desc, Try.t23.size, Try.t23.zero, Try.t23.bytes, false⟩ := ⟨by kernel_rfl, ⟨Try.t23, by kernel_rfl, rfl, rfl, rfl⟩, fun h => (by cases h)⟩
theorem ty24 : TyOk Try.prog 24 ⟨Try.t24.desc, Try.t24.size, Try.t24.zero, Try.t24.bytes, false⟩ := ⟨by kernel_rfl, ⟨Try.t24, by kernel_rfl, rfl, rfl, rfl⟩, fun h => (by cases h)⟩
theorem ty25 : TyOk Try.prog 25 ⟨Try.t25.desc, Try.t25.size, Try.t25.zero, Try.t25.bytes, false⟩ := ⟨by kernel_rfl, ⟨Try.t25, by kernel_rfl, rfl, rfl, rfl⟩, fun h => (by cases h)⟩
theorem ty26 : TyOk Try.prog 26 ⟨Try.t25.desc, Try.t26.size, Try.t26.zero, Try.t26.bytes, true⟩ := ⟨by kernel_rfl, ⟨Try.t26, by kernel_rfl, rfl, rfl, rfl⟩, fun _ => ⟨by kernel_rfl, by kernel_rfl⟩⟩
theorem ty27 : TyOk Try.prog 27 ⟨Try.t3.desc, Try.t27.size, Try.t27.zero, Try.t27.bytes, false⟩ := ⟨by kernel_rfl, ⟨Try.t27, by kernel_rfl, rfl, rfl, rfl⟩, fun h => (by cases h)⟩
theorem ty28 : TyOk Try.prog 28 ⟨Try.t28.desc, Try.t28.size, Try.t28.zero, Try.t28.bytes, false⟩ := ⟨by kernel_rfl, ⟨Try.t28, by kernel_rfl, rfl, rfl, rfl⟩, fun h => (by cases h)⟩
theorem ty29 : TyOk Try.prog 29 ⟨Try.t29.desc, Try.t29.size, Try.t29.zero, Try.t29.bytes, false⟩ := ⟨by kernel_rfl, ⟨Try.t29, by kernel_rfl, rfl, rfl, rfl⟩, fun h => (by cases h)⟩
theorem ty30 : TyOk Try.prog 30 ⟨Try.t30.desc, Try.t30.size, Try.t30.zero, Try.t30.bytes, false⟩ := ⟨by kernel_rfl, ⟨Try.t30, by kernel_rfl, rfl, rfl, rfl⟩, fun h => (by cases h)⟩
theorem ty31 : TyOk Try.prog 31 ⟨Try.t31.desc, Try.t31.size, Try.t31.zero, Try.t31.bytes, false⟩ := ⟨by kernel_rfl, ⟨Try.t31, by kernel_rfl, rfl, rfl, rfl⟩, fun h => (by cases h)⟩
theorem ty32 : TyOk Try.prog 32 ⟨Try.t32.desc, Try.t32.size, Try.t32.zero, Try.t32.bytes, false⟩ := ⟨by kernel_rfl, ⟨Try.t32, by kernel_rfl, rfl, rfl, rfl⟩, fun h => (by cases h)⟩
theorem ty33 : TyOk Try.prog 33 ⟨Try.t33.desc, Try.t33.size, Try.t33.zero, Try.t33.bytes, false⟩ := ⟨by kernel_rfl, ⟨Try.t33, by kernel_rfl, rfl, rfl, rfl⟩, fun h => (by cases h)⟩
theorem ty34 : TyOk Try.prog 34 ⟨Try.t25.desc, Try.t34.size, Try.t34.zero, Try.t34.bytes, true⟩ := ⟨by kernel_rfl, ⟨Try.t34, by kernel_rfl, rfl, rfl, rfl⟩, fun _ => ⟨by kernel_rfl, by kernel_rfl⟩⟩
theorem ty35 : TyOk Try.prog 35 ⟨Try.t35.desc, Try.t35.size, Try.t35.zero, Try.t35.bytes, false⟩ := ⟨by kernel_rfl, ⟨Try.t35, by kernel_rfl, rfl, rfl, rfl⟩, fun h => (by cases h)⟩
theorem ty36 : TyOk Try.prog 36 ⟨Try.t36.desc, Try.t36.size, Try.t36.zero, Try.t36.bytes, false⟩ := ⟨by kernel_rfl, ⟨Try.t36, by kernel_rfl, rfl, rfl, rfl⟩, fun h => (by cases h)⟩
theorem ty37 : TyOk Try.prog 37 ⟨Try.t37.desc, Try.t37.size, Try.t37.zero, Try.t37.bytes, false⟩ := ⟨by kernel_rfl, ⟨Try.t37, by kernel_rfl, rfl, rfl, rfl⟩, fun h => (by cases h)⟩
theorem ty38 : TyOk Try.prog 38 ⟨Try.t38.desc, Try.t38.size, Try.t38.zero, Try.t38.bytes, false⟩ := ⟨by kernel_rfl, ⟨Try.t38, by kernel_rfl, rfl, rfl, rfl⟩, fun h => (by cases h)⟩
theorem ty39 : TyOk Try.prog 39 ⟨Try.t39.desc, Try.t39.size, Try.t39.zero, Try.t39.bytes, false⟩ := ⟨by kernel_rfl, ⟨Try.t39, by kernel_rfl, rfl, rfl, rfl⟩, fun h => (by cases h)⟩
theorem ty40 : TyOk Try.prog 40 ⟨Try.t40.desc, Try.t40.size, Try.t40.zero, Try.t40.bytes, false⟩ := ⟨by kernel_rfl, ⟨Try.t40, by kernel_rfl, rfl, rfl, rfl⟩, fun h => (by cases h)⟩
theorem ty41 : TyOk Try.prog 41 ⟨Try.t41.desc, Try.t41.size, Try.t41.zero, Try.t41.bytes, false⟩ := ⟨by kernel_rfl, ⟨Try.t41, by kernel_rfl, rfl, rfl, rfl⟩, fun h => (by cases h)⟩
theorem ty42 : TyOk Try.prog 42 ⟨Try.t42.desc, Try.t42.size, Try.t42.zero, Try.t42.bytes, false⟩ := ⟨by kernel_rfl, ⟨Try.t42, by kernel_rfl, rfl, rfl, rfl⟩, fun h => (by cases h)⟩
theorem ty43 : TyOk Try.prog 43 ⟨Try.t43.desc, Try.t43.size, Try.t43.zero, Try.t43.bytes, false⟩ := ⟨by kernel_rfl, ⟨Try.t43, by kernel_rfl, rfl, rfl, rfl⟩, fun h => (by cases h)⟩
theorem ty44 : TyOk Try.prog 44 ⟨Try.t44.desc, Try.t44.size, Try.t44.zero, Try.t44.bytes, false⟩ := ⟨by kernel_rfl, ⟨Try.t44, by kernel_rfl, rfl, rfl, rfl⟩, fun h => (by cases h)⟩
theorem ty45 : TyOk Try.prog 45 ⟨Try.t44.desc, Try.t45.size, Try.t45.zero, Try.t45.bytes, false⟩ := ⟨by kernel_rfl, ⟨Try.t45, by kernel_rfl, rfl, rfl, rfl⟩, fun h => (by cases h)⟩
theorem ty46 : TyOk Try.prog 46 ⟨Try.t46.desc, Try.t46.size, Try.t46.zero, Try.t46.bytes, false⟩ := ⟨by kernel_rfl, ⟨Try.t46, by kernel_rfl, rfl, rfl, rfl⟩, fun h => (by cases h)⟩
theorem ty47 : TyOk Try.prog 47 ⟨Try.t47.desc, Try.t47.size, Try.t47.zero, Try.t47.bytes, false⟩ := ⟨by kernel_rfl, ⟨Try.t47, by kernel_rfl, rfl, rfl, rfl⟩, fun h => (by cases h)⟩
theorem ty48 : TyOk Try.prog 48 ⟨Try.t48.desc, Try.t48.size, Try.t48.zero, Try.t48.bytes, false⟩ := ⟨by kernel_rfl, ⟨Try.t48, by kernel_rfl, rfl, rfl, rfl⟩, fun h => (by cases h)⟩
theorem ty49 : TyOk Try.prog 49 ⟨Try.t49.desc, Try.t49.size, Try.t49.zero, Try.t49.bytes, false⟩ := ⟨by kernel_rfl, ⟨Try.t49, by kernel_rfl, rfl, rfl, rfl⟩, fun h => (by cases h)⟩
theorem ty50 : TyOk Try.prog 50 ⟨Try.t50.desc, Try.t50.size, Try.t50.zero, Try.t50.bytes, false⟩ := ⟨by kernel_rfl, ⟨Try.t50, by kernel_rfl, rfl, rfl, rfl⟩, fun h => (by cases h)⟩
theorem ty51 : TyOk Try.prog 51 ⟨Try.t51.desc, Try.t51.size, Try.t51.zero, Try.t51.bytes, false⟩ := ⟨by kernel_rfl, ⟨Try.t51, by kernel_rfl, rfl, rfl, rfl⟩, fun h => (by cases h)⟩
theorem ty52 : TyOk Try.prog 52 ⟨Try.t52.desc, Try.t52.size, Try.t52.zero, Try.t52.bytes, false⟩ := ⟨by kernel_rfl, ⟨Try.t52, by kernel_rfl, rfl, rfl, rfl⟩, fun h => (by cases h)⟩
theorem ty53 : TyOk Try.prog 53 ⟨Try.t53.desc, Try.t53.size, Try.t53.zero, Try.t53.bytes, false⟩ := ⟨by kernel_rfl, ⟨Try.t53, by kernel_rfl, rfl, rfl, rfl⟩, fun h => (by cases h)⟩
theorem ty54 : TyOk Try.prog 54 ⟨Try.t54.desc, Try.t54.size, Try.t54.zero, Try.t54.bytes, false⟩ := ⟨by kernel_rfl, ⟨Try.t54, by kernel_rfl, rfl, rfl, rfl⟩, fun h => (by cases h)⟩
theorem ty55 : TyOk Try.prog 55 ⟨Try.t55.desc, Try.t55.size, Try.t55.zero, Try.t55.bytes, false⟩ := ⟨by kernel_rfl, ⟨Try.t55, by kernel_rfl, rfl, rfl, rfl⟩, fun h => (by cases h)⟩
theorem ty56 : TyOk Try.prog 56 ⟨Try.t56.desc, Try.t56.size, Try.t56.zero, Try.t56.bytes, false⟩ := ⟨by kernel_rfl, ⟨Try.t56, by kernel_rfl, rfl, rfl, rfl⟩, fun h => (by cases h)⟩
theorem ty57 : TyOk Try.prog 57 ⟨Try.t57.desc, Try.t57.size, Try.t57.zero, Try.t57.bytes, false⟩ := ⟨by kernel_rfl, ⟨Try.t57, by kernel_rfl, rfl, rfl, rfl⟩, fun h => (by cases h)⟩
theorem ty58 : TyOk Try.prog 58 ⟨Try.t58.desc, Try.t58.size, Try.t58.zero, Try.t58.bytes, false⟩ := ⟨by kernel_rfl, ⟨Try.t58, by kernel_rfl, rfl, rfl, rfl⟩, fun h => (by cases h)⟩
theorem ty59 : TyOk Try.prog 59 ⟨Try.t59.desc, Try.t59.size, Try.t59.zero, Try.t59.bytes, false⟩ := ⟨by kernel_rfl, ⟨Try.t59, by kernel_rfl, rfl, rfl, rfl⟩, fun h => (by cases h)⟩
theorem ty60 : TyOk Try.prog 60 ⟨Try.t60.desc, Try.t60.size, Try.t60.zero, Try.t60.bytes, false⟩ := ⟨by kernel_rfl, ⟨Try.t60, by kernel_rfl, rfl, rfl, rfl⟩, fun h => (by cases h)⟩
theorem ty61 : TyOk Try.prog 61 ⟨Try.t61.desc, Try.t61.size, Try.t61.zero, Try.t61.bytes, false⟩ := ⟨by kernel_rfl, ⟨Try.t61, by kernel_rfl, rfl, rfl, rfl⟩, fun h => (by cases h)⟩
theorem ty62 : TyOk Try.prog 62 ⟨Try.t61.desc, Try.t62.size, Try.t62.zero, Try.t62.bytes, false⟩ := ⟨by kernel_rfl, ⟨Try.t62, by kernel_rfl, rfl, rfl, rfl⟩, fun h => (by cases h)⟩
theorem ty63 : TyOk Try.prog 63 ⟨Try.t63.desc, Try.t63.size, Try.t63.zero, Try.t63.bytes, false⟩ := ⟨by kernel_rfl, ⟨Try.t63, by kernel_rfl, rfl, rfl, rfl⟩, fun h => (by cases h)⟩
theorem ty64 : TyOk Try.prog 64 ⟨Try.t64.desc, Try.t64.size, Try.t64.zero, Try.t64.bytes, false⟩ := ⟨by kernel_rfl, ⟨Try.t64, by kernel_rfl, rfl, rfl, rfl⟩, fun h => (by cases h)⟩
theorem ty65 : TyOk Try.prog 65 ⟨Try.t64.desc, Try.t65.size, Try.t65.zero, Try.t65.bytes, false⟩ := ⟨by kernel_rfl, ⟨Try.t65, by kernel_rfl, rfl, rfl, rfl⟩, fun h => (by cases h)⟩
theorem ty66 : TyOk Try.prog 66 ⟨Try.t66.desc, Try.t66.size, Try.t66.zero, Try.t66.bytes, false⟩ := ⟨by kernel_rfl, ⟨Try.t66, by kernel_rfl, rfl, rfl, rfl⟩, fun h => (by cases h)⟩
theorem ty67 : TyOk Try.prog 67 ⟨Try.t5.desc, Try.t67.size, Try.t67.zero, Try.t67.bytes, false⟩ := ⟨by kernel_rfl, ⟨Try.t67, by kernel_rfl, rfl, rfl, rfl⟩, fun h => (by cases h)⟩
theorem ty68 : TyOk Try.prog 68 ⟨Try.t5.desc, Try.t68.size, Try.t68.zero, Try.t68.bytes, false⟩ := ⟨by kernel_rfl, ⟨Try.t68, by kernel_rfl, rfl, rfl, rfl⟩, fun h => (by cases h)⟩
theorem ty69 : TyOk Try.prog 69 ⟨Try.t69.desc, Try.t69.size, Try.t69.zero, Try.t69.bytes, false⟩ := ⟨by kernel_rfl, ⟨Try.t69, by kernel_rfl, rfl, rfl, rfl⟩, fun h => (by cases h)⟩
theorem ty70 : TyOk Try.prog 70 ⟨Try.t70.desc, Try.t70.size, Try.t70.zero, Try.t70.bytes, false⟩ := ⟨by kernel_rfl, ⟨Try.t70, by kernel_rfl, rfl, rfl, rfl⟩, fun h => (by cases h)⟩
theorem ty71 : TyOk Try.prog 71 ⟨Try.t21.desc, Try.t71.size, Try.t71.zero, Try.t71.bytes, false⟩ := ⟨by kernel_rfl, ⟨Try.t71, by kernel_rfl, rfl, rfl, rfl⟩, fun h => (by cases h)⟩
theorem ty72 : TyOk Try.prog 72 ⟨Try.t21.desc, Try.t72.size, Try.t72.zero, Try.t72.bytes, false⟩ := ⟨by kernel_rfl, ⟨Try.t72, by kernel_rfl, rfl, rfl, rfl⟩, fun h => (by cases h)⟩
theorem ty73 : TyOk Try.prog 73 ⟨Try.t73.desc, Try.t73.size, Try.t73.zero, Try.t73.bytes, false⟩ := ⟨by kernel_rfl, ⟨Try.t73, by kernel_rfl, rfl, rfl, rfl⟩, fun h => (by cases h)⟩
theorem ty74 : TyOk Try.prog 74 ⟨Try.t73.desc, Try.t74.size, Try.t74.zero, Try.t74.bytes, false⟩ := ⟨by kernel_rfl, ⟨Try.t74, by kernel_rfl, rfl, rfl, rfl⟩, fun h => (by cases h)⟩
theorem ty75 : TyOk Try.prog 75 ⟨Try.t75.desc, Try.t75.size, Try.t75.zero, Try.t75.bytes, false⟩ := ⟨by kernel_rfl, ⟨Try.t75, by kernel_rfl, rfl, rfl, rfl⟩, fun h => (by cases h)⟩
theorem fn3 : FnOk Try.prog 3 Try.f3 := ⟨Try.func3, rfl, by kernel_rfl⟩
theorem fn4 : FnOk Try.prog 4 Try.f4 := ⟨Try.func4, rfl, by kernel_rfl⟩
theorem fn5 : FnOk Try.prog 5 Try.f5 := ⟨Try.func5, rfl, by kernel_rfl⟩
theorem fn6 : FnOk Try.prog 6 Try.f6 := ⟨Try.func6, rfl, by kernel_rfl⟩
theorem fn7 : FnOk Try.prog 7 Try.f7 := ⟨Try.func7, rfl, by kernel_rfl⟩
theorem fn8 : FnOk Try.prog 8 Try.f8 := ⟨Try.func8, rfl, by kernel_rfl⟩
theorem fn9 : FnOk Try.prog 9 Try.f9 := ⟨Try.func9, rfl, by kernel_rfl⟩
theorem fn10 : FnOk Try.prog 10 Try.f10 := ⟨Try.func10, rfl, by kernel_rfl⟩
theorem fn11 : FnOk Try.prog 11 Try.f11 := ⟨Try.func11, rfl, by kernel_rfl⟩
theorem fn12 : FnOk Try.prog 12 Try.f12 := ⟨Try.func12, rfl, by kernel_rfl⟩
theorem fn13 : FnOk Try.prog 13 Try.f13 := ⟨Try.func13, rfl, by kernel_rfl⟩
theorem fn14 : FnOk Try.prog 14 Try.f14 := ⟨Try.func14, rfl, by kernel_rfl⟩
theorem fn15 : FnOk Try.prog 15 Try.f15 := ⟨Try.func15, rfl, by kernel_rfl⟩
theorem fn16 : FnOk Try.prog 16 Try.f16 := ⟨Try.func16, rfl, by kernel_rfl⟩
theorem fn17 : FnOk Try.prog 17 Try.f17 := ⟨Try.func17, rfl, by kernel_rfl⟩
theorem fn18 : FnOk Try.prog 18 Try.f18 := ⟨Try.func18, rfl, by kernel_rfl⟩
theorem fn19 : FnOk Try.prog 19 Try.f19 := ⟨Try.func19, rfl, by kernel_rfl⟩
theorem fn20 : FnOk Try.prog 20 Try.f20 := ⟨Try.func20, rfl, by kernel_rfl⟩
theorem fn21 : FnOk Try.prog 21 Try.f21 := ⟨Try.func21, rfl, by kernel_rfl⟩
theorem fn22 : FnOk Try.prog 22 Try.f22 := ⟨Try.func22, rfl, by kernel_rfl⟩
theorem fn23 : FnOk Try.prog 23 Try.f23 := ⟨Try.func23, rfl, by kernel_rfl⟩
theorem fn24 : FnOk Try.prog 24 Try.f24 := ⟨Try.func24, rfl, by kernel_rfl⟩
theorem fn25 : FnOk Try.prog 25 Try.f25 := ⟨Try.func25, rfl, by kernel_rfl⟩
theorem fn26 : FnOk Try.prog 26 Try.f26 := ⟨Try.func26, rfl, by kernel_rfl⟩
theorem fn27 : FnOk Try.prog 27 Try.f27 := ⟨Try.func27, rfl, by kernel_rfl⟩
theorem fn28 : FnOk Try.prog 28 Try.f28 := ⟨Try.func28, rfl, by kernel_rfl⟩
theorem fn29 : FnOk Try.prog 29 Try.f29 := ⟨Try.func29, rfl, by kernel_rfl⟩
theorem fn30 : FnOk Try.prog 30 Try.f30 := ⟨Try.func30, rfl, by kernel_rfl⟩
theorem fn31 : FnOk Try.prog 31 Try.f31 := ⟨Try.func31, rfl, by kernel_rfl⟩
theorem tysOk : Each (TyOk Try.prog) tys := ⟨ty0, ty1, ty2, ty3, ty4, ty5, ty6, ty7, ty8, ty9, ty10, ty11, ty12, ty13, ty14, ty15, ty16, ty17, ty18, ty19, ty20, ty21, ty22, ty23, ty24, ty25, ty26, ty27, ty28, ty29, ty30, ty31, ty32, ty33, ty34, ty35, ty36, ty37, ty38, ty39, ty40, ty41, ty42, ty43, ty44, ty45, ty46, ty47, ty48, ty49, ty50, ty51, ty52, ty53, ty54, ty55, ty56, ty57, ty58, ty59, ty60, ty61, ty62, ty63, ty64, ty65, ty66, ty67, ty68, ty69, ty70, ty71, ty72, ty73, ty74, ty75, trivial⟩
theorem fnsOk : Each (FnOk Try.prog) fns := ⟨fn3, fn4, fn5, fn6, fn7, fn8, fn9, fn10, fn11, fn12, fn13, fn14, fn15, fn16, fn17, fn18, fn19, fn20, fn21, fn22, fn23, fn24, fn25, fn26, fn27, fn28, fn29, fn30, fn31, trivial⟩
def env : Env := { ty := Tr.ofList tys, fn := Tr.ofList fns }
theorem envOk : env.Ok Try.prog := Env.ok_of tysOk fnsOk (by decide +kernel) (by decide +kernel) (by kernel_rfl)
end Go.Proofs.Ytkemllgkkngcjaa
namespace Go.Proofs.Ytkemllgkkngcjaa
def wd (c : Int) : Int := bif decide (1 ≤ c) && decide (c ≤ 8) then 8 else bif decide (9 ≤ c) && decide (c ≤ 16) then 16 else 0
def nm (c : Int) : Int := (c - 1) % 8
def sm (d s : Int) : Bool := (wd d != 0) && (wd d == wd s)
def w1 (d : Int) : Int := bif wd d == 16 then 1 else 0
structure Hd where
  n : Int
  b0 : Int
  b1 : Int
  t : Int
deriving DecidableEq
def hdN : Hd := ⟨0, 0, 0, 0⟩
def hdPlaces (d s : Int) : Hd := bif (wd d == 8) && (s == 17) then ⟨2, 138, nm d * 8 + 7, 0⟩ else bif (d == 17) && (wd s == 8) then ⟨2, 136, nm s * 8 + 7, 0⟩ else bif (d == 1) && (s == 18) then ⟨2, 138, 4, 0⟩ else bif (d == 18) && (s == 1) then ⟨2, 136, 4, 0⟩ else bif (d == 1) && (s == 19) then ⟨1, 160, 0, 2⟩ else bif (d == 19) && (s == 1) then ⟨1, 162, 0, 2⟩ else bif (wd d == 16) && ((d != 9) && (s == 19)) then ⟨2, 139, nm d * 8 + 6, 2⟩ else bif (d == 19) && ((wd s == 16) && (s != 9)) then ⟨2, 137, nm s * 8 + 6, 2⟩ else bif (wd d == 8) && (s == 20) then ⟨1, 176 + nm d, 0, 1⟩ else bif (wd d == 16) && (s == 20) then ⟨1, 184 + nm d, 0, 2⟩ else bif (d == 17) && (s == 20) then ⟨2, 198, 7, 1⟩ else hdN
def hdTwo (op d s : Int) : Hd := bif (op == 1) && sm d s then ⟨2, 136 + w1 d, 192 + nm s * 8 + nm d, 0⟩ else bif op == 1 then hdPlaces d s else bif (op == 17) && (sm d s && ((d != 9) && (s != 9))) then ⟨2, 134 + w1 d, 192 + nm s * 8 + nm d, 0⟩ else bif (op == 30) && ((d == 1) && (s == 20)) then ⟨1, 228, 0, 1⟩ else bif (op == 31) && ((d == 20) && (s == 1)) then ⟨1, 230, 0, 1⟩ else bif decide (op < 2) || decide (9 < op) then hdN else bif sm d s then ⟨2, (op - 2) * 8 + w1 d, 192 + nm s * 8 + nm d, 0⟩ else bif (wd d == 8) && (s == 17) then ⟨2, (op - 2) * 8 + 2, nm d * 8 + 7, 0⟩ else bif (d == 1) && (s == 20) then ⟨1, (op - 2) * 8 + 4, 0, 1⟩ else bif (wd d == 8) && (s == 20) then ⟨2, 128, 192 + (op - 2) * 8 + nm d, 1⟩ else hdN
def hdOne (op d : Int) : Hd := bif decide (op ≤ 11) && (d == 17) then ⟨2, 254, (op - 10) * 8 + 7, 0⟩ else bif decide (op ≤ 11) && (wd d == 8) then ⟨2, 254, 192 + (op - 10) * 8 + nm d, 0⟩ else bif decide (op ≤ 11) && (wd d == 16) then ⟨1, 64 + (op - 10) * 8 + nm d, 0, 0⟩ else bif decide (op ≤ 15) && (wd d != 0) then ⟨2, 208 + w1 d, 192 + (op - 12) * 8 + nm d, 0⟩ else bif (op == 16) && (wd d == 8) then ⟨2, 246, 208 + nm d, 0⟩ else bif decide (18 ≤ op) && (wd d == 16) then ⟨1, 80 + (op - 18) * 8 + nm d, 0, 0⟩ else hdN
def al10 (i : Int) : Int := bif i == 0 then 159 else bif i == 1 then 158 else bif i == 2 then 39 else bif i == 3 then 245 else bif i == 4 then 249 else bif i == 5 then 248 else bif i == 6 then 251 else bif i == 7 then 250 else bif i == 8 then 244 else 144
def hd (op d s : Int) : Hd := bif decide (op < 1) then hdN else bif (s != 0) || ((op == 1) || (op == 17)) then hdTwo op d s else bif decide (10 ≤ op) && decide (op ≤ 19) then hdOne op d else bif (d == 0) && (decide (20 ≤ op) && decide (op ≤ 29)) then ⟨1, al10 (op - 20), 0, 0⟩ else bif (d == 0) && (op == 35) then ⟨1, 195, 0, 0⟩ else bif d != 20 then hdN else bif op == 32 then ⟨1, 233, 0, 2⟩ else bif op == 33 then ⟨1, 235, 0, 3⟩ else bif op == 34 then ⟨1, 232, 0, 2⟩ else bif decide (42 ≤ op) && (decide (op ≤ 51) && ((op != 46) && (op != 47))) then ⟨1, 112 + (op - 40), 0, 3⟩ else hdN
structure T3 where
  op : Int
  d : Int
  s : Int
deriving DecidableEq
def rgs (x : Int) (w : Bool) : Int := bif w then x % 8 + 9 else x % 8 + 1
def gsMoved (a m : Int) (reg r : Int) : T3 :=
  let place : Int := bif m / 64 == 3 then r else bif m % 8 == 7 then 17 else bif m % 8 == 4 then 18 else bif m % 8 == 6 then 19 else 0
  bif a / 2 % 2 == 0 then ⟨1, place, reg⟩ else ⟨1, reg, place⟩
def gsAlone (a : Int) : T3 := bif a == 160 then ⟨1, 1, 19⟩ else bif a == 162 then ⟨1, 19, 1⟩ else bif a == 228 then ⟨30, 1, 20⟩ else bif a == 230 then ⟨31, 20, 1⟩ else bif a == 233 then ⟨32, 20, 0⟩ else bif a == 235 then ⟨33, 20, 0⟩ else bif a == 232 then ⟨34, 20, 0⟩ else bif a == 195 then ⟨35, 0, 0⟩ else bif a == 159 then ⟨20, 0, 0⟩ else bif a == 158 then ⟨21, 0, 0⟩ else bif a == 39 then ⟨22, 0, 0⟩ else bif a == 245 then ⟨23, 0, 0⟩ else bif a == 249 then ⟨24, 0, 0⟩ else bif a == 248 then ⟨25, 0, 0⟩ else bif a == 251 then ⟨26, 0, 0⟩ else bif a == 250 then ⟨27, 0, 0⟩ else bif a == 244 then ⟨28, 0, 0⟩ else bif a == 144 then ⟨29, 0, 0⟩ else ⟨19, 0, 0⟩
def gs (a m : Int) : T3 :=
  let w := a % 2 == 1
  let reg := rgs (m / 8) w
  let r := rgs m w
  let k := m / 8 % 8
  bif decide (a < 64) && decide (a % 8 < 2) then ⟨a / 8 + 2, r, reg⟩
  else bif decide (a < 64) && (a % 8 == 2) then ⟨a / 8 + 2, reg, 17⟩
  else bif decide (a < 64) && (a % 8 == 4) then ⟨a / 8 + 2, 1, 20⟩
  else bif a == 39 then ⟨22, 0, 0⟩
  else bif a / 16 == 4 then ⟨10 + a / 8 % 2, a % 8 + 9, 0⟩
  else bif a / 16 == 5 then ⟨18 + a / 8 % 2, a % 8 + 9, 0⟩
  else bif a / 16 == 7 then ⟨40 + a % 16, 20, 0⟩
  else bif a == 128 then ⟨k + 2, r, 20⟩
  else bif (a == 134) || (a == 135) then ⟨17, r, reg⟩
  else bif a / 8 == 22 then ⟨1, a % 8 + 1, 20⟩
  else bif a / 8 == 23 then ⟨1, a % 8 + 9, 20⟩
  else bif a == 198 then ⟨1, 17, 20⟩
  else bif (a == 208) || (a == 209) then ⟨12 + k, r, 0⟩
  else bif a == 246 then ⟨16, r, 0⟩
  else bif (a == 254) && (m / 64 == 0) then ⟨10 + k, 17, 0⟩
  else bif a == 254 then ⟨10 + k, r, 0⟩
  else bif a / 4 == 34 then gsMoved a m reg r
  else gsAlone a
def by1 (x : Int) : Bool := decide (0 ≤ x) && decide (x ≤ 255)
def is3 (t : T3) (op d s : Int) : Bool := (t.op == op) && ((t.d == d) && (t.s == s))
def okHd (op d s : Int) : Bool :=
  let h := hd op d s
  bif h.n == 0 then (h.b0 == 0) && ((h.b1 == 0) && (h.t == 0))
  else bif h.n == 1 then by1 h.b0 && ((h.b1 == 0) && (decide (0 ≤ h.t) && decide (h.t ≤ 3)) && ((List.range 256).all fun m => is3 (gs h.b0 (m : Nat)) op d s))
  else (h.n == 2) && (by1 h.b0 && (by1 h.b1 && (decide (0 ≤ h.t) && decide (h.t ≤ 2) && is3 (gs h.b0 h.b1) op d s)))
def okAll (k : Nat) : Bool := (List.range 21).all fun d => (List.range 21).all fun s => okHd (k : Nat) (d : Nat) (s : Nat)
theorem wd_8 {c : Int} : (wd c == 8) = true ↔ 1 ≤ c ∧ c ≤ 8 := by
  unfold wd
  by_cases h1 : 1 ≤ c ∧ c ≤ 8
  · simp [h1]
  · by_cases h2 : 9 ≤ c ∧ c ≤ 16
    · have : (decide (1 ≤ c) && decide (c ≤ 8)) = false := by simp; omega
      simp [this, h2]; omega
    · have e1 : (decide (1 ≤ c) && decide (c ≤ 8)) = false := by simp; omega
      have e2 : (decide (9 ≤ c) && decide (c ≤ 16)) = false := by simp; omega
      simp [e1, e2]; omega
theorem wd_16 {c : Int} : (wd c == 16) = true ↔ 9 ≤ c ∧ c ≤ 16 := by
  unfold wd
  by_cases h1 : 1 ≤ c ∧ c ≤ 8
  · simp only [h1, decide_true, Bool.and_self, cond_true]
    constructor
    · intro h; cases h
    · intro h; omega
  · have e1 : (decide (1 ≤ c) && decide (c ≤ 8)) = false := by simp; omega
    by_cases h2 : 9 ≤ c ∧ c ≤ 16
    · simp [e1, h2]
    · have e2 : (decide (9 ≤ c) && decide (c ≤ 16)) = false := by simp; omega
      simp [e1, e2]; omega
theorem wd8 {c : Int} : wd c = 8 ↔ 1 ≤ c ∧ c ≤ 8 := by rw [← wd_8, beq_iff_eq]
theorem wd16 {c : Int} : wd c = 16 ↔ 9 ≤ c ∧ c ≤ 16 := by rw [← wd_16, beq_iff_eq]
theorem wd0 {c : Int} (h : wd c ≠ 0) : 1 ≤ c ∧ c ≤ 16 := by
  unfold wd at h
  cases e1 : (decide (1 ≤ c) && decide (c ≤ 8)) with
  | true => simp at e1; omega
  | false =>
    rw [e1] at h
    cases e2 : (decide (9 ≤ c) && decide (c ≤ 16)) with
    | true => simp at e2; omega
    | false => rw [e2] at h; exact absurd rfl h
theorem sm_range {d s : Int} (h : sm d s = true) : 1 ≤ d ∧ d ≤ 16 ∧ 1 ≤ s ∧ s ≤ 16 := by
  unfold sm at h
  simp only [Bool.and_eq_true, bne_iff_ne, ne_eq, beq_iff_eq] at h
  have h1 := wd0 h.1
  have h2 := wd0 (c := s) (by rw [← h.2]; exact h.1)
  omega
theorem cond_n {c : Bool} {x y : Hd} (h : (bif c then x else y).n ≠ 0) : (c = true ∧ x.n ≠ 0) ∨ (c = false ∧ y.n ≠ 0) := by
  cases c with
  | true => exact .inl ⟨rfl, h⟩
  | false => exact .inr ⟨rfl, h⟩
theorem places_range {d s : Int} (h : (hdPlaces d s).n ≠ 0) : 0 ≤ d ∧ d ≤ 20 ∧ 0 ≤ s ∧ s ≤ 20 := by
  unfold hdPlaces at h
  rcases cond_n h with ⟨c, h⟩ | ⟨c0, h⟩
  · (try simp only [Bool.and_eq_true, Bool.or_eq_true, beq_iff_eq, bne_iff_ne, ne_eq, decide_eq_true_eq, wd8, wd16] at c); omega
  rcases cond_n h with ⟨c, h⟩ | ⟨c1, h⟩
  · (try simp only [Bool.and_eq_true, Bool.or_eq_true, beq_iff_eq, bne_iff_ne, ne_eq, decide_eq_true_eq, wd8, wd16] at c); omega
  rcases cond_n h with ⟨c, h⟩ | ⟨c2, h⟩
  · (try simp only [Bool.and_eq_true, Bool.or_eq_true, beq_iff_eq, bne_iff_ne, ne_eq, decide_eq_true_eq, wd8, wd16] at c); omega
  rcases cond_n h with ⟨c, h⟩ | ⟨c3, h⟩
  · (try simp only [Bool.and_eq_true, Bool.or_eq_true, beq_iff_eq, bne_iff_ne, ne_eq, decide_eq_true_eq, wd8, wd16] at c); omega
  rcases cond_n h with ⟨c, h⟩ | ⟨c4, h⟩
  · (try simp only [Bool.and_eq_true, Bool.or_eq_true, beq_iff_eq, bne_iff_ne, ne_eq, decide_eq_true_eq, wd8, wd16] at c); omega
  rcases cond_n h with ⟨c, h⟩ | ⟨c5, h⟩
  · (try simp only [Bool.and_eq_true, Bool.or_eq_true, beq_iff_eq, bne_iff_ne, ne_eq, decide_eq_true_eq, wd8, wd16] at c); omega
  rcases cond_n h with ⟨c, h⟩ | ⟨c6, h⟩
  · (try simp only [Bool.and_eq_true, Bool.or_eq_true, beq_iff_eq, bne_iff_ne, ne_eq, decide_eq_true_eq, wd8, wd16] at c); omega
  rcases cond_n h with ⟨c, h⟩ | ⟨c7, h⟩
  · (try simp only [Bool.and_eq_true, Bool.or_eq_true, beq_iff_eq, bne_iff_ne, ne_eq, decide_eq_true_eq, wd8, wd16] at c); omega
  rcases cond_n h with ⟨c, h⟩ | ⟨c8, h⟩
  · (try simp only [Bool.and_eq_true, Bool.or_eq_true, beq_iff_eq, bne_iff_ne, ne_eq, decide_eq_true_eq, wd8, wd16] at c); omega
  rcases cond_n h with ⟨c, h⟩ | ⟨c9, h⟩
  · (try simp only [Bool.and_eq_true, Bool.or_eq_true, beq_iff_eq, bne_iff_ne, ne_eq, decide_eq_true_eq, wd8, wd16] at c); omega
  rcases cond_n h with ⟨c, h⟩ | ⟨c10, h⟩
  · (try simp only [Bool.and_eq_true, Bool.or_eq_true, beq_iff_eq, bne_iff_ne, ne_eq, decide_eq_true_eq, wd8, wd16] at c); omega
  exact absurd rfl h
theorem two_range {op d s : Int} (h : (hdTwo op d s).n ≠ 0) : 1 ≤ op ∧ op ≤ 51 ∧ 0 ≤ d ∧ d ≤ 20 ∧ 0 ≤ s ∧ s ≤ 20 := by
  unfold hdTwo at h
  rcases cond_n h with ⟨c, h⟩ | ⟨c0, h⟩
  · simp only [Bool.and_eq_true, Bool.or_eq_true, beq_iff_eq, bne_iff_ne, ne_eq, decide_eq_true_eq, wd8, wd16] at c; have := sm_range c.2; omega
  rcases cond_n h with ⟨c, h⟩ | ⟨c1, h⟩
  · simp only [Bool.and_eq_true, Bool.or_eq_true, beq_iff_eq, bne_iff_ne, ne_eq, decide_eq_true_eq, wd8, wd16] at c; have := places_range h; omega
  rcases cond_n h with ⟨c, h⟩ | ⟨c2, h⟩
  · simp only [Bool.and_eq_true, Bool.or_eq_true, beq_iff_eq, bne_iff_ne, ne_eq, decide_eq_true_eq, wd8, wd16] at c; have := sm_range c.2.1; omega
  rcases cond_n h with ⟨c, h⟩ | ⟨c3, h⟩
  · (try simp only [Bool.and_eq_true, Bool.or_eq_true, beq_iff_eq, bne_iff_ne, ne_eq, decide_eq_true_eq, wd8, wd16] at c); omega
  rcases cond_n h with ⟨c, h⟩ | ⟨c4, h⟩
  · (try simp only [Bool.and_eq_true, Bool.or_eq_true, beq_iff_eq, bne_iff_ne, ne_eq, decide_eq_true_eq, wd8, wd16] at c); omega
  rcases cond_n h with ⟨c, h⟩ | ⟨c5, h⟩
  · exact absurd rfl h
  rcases cond_n h with ⟨c, h⟩ | ⟨c6, h⟩
  · simp only [Bool.or_eq_false_iff, decide_eq_false_iff_not] at c5; have := sm_range c; omega
  rcases cond_n h with ⟨c, h⟩ | ⟨c7, h⟩
  · simp only [Bool.or_eq_false_iff, decide_eq_false_iff_not] at c5; (try simp only [Bool.and_eq_true, Bool.or_eq_true, beq_iff_eq, bne_iff_ne, ne_eq, decide_eq_true_eq, wd8, wd16] at c); omega
  rcases cond_n h with ⟨c, h⟩ | ⟨c8, h⟩
  · simp only [Bool.or_eq_false_iff, decide_eq_false_iff_not] at c5; (try simp only [Bool.and_eq_true, Bool.or_eq_true, beq_iff_eq, bne_iff_ne, ne_eq, decide_eq_true_eq, wd8, wd16] at c); omega
  rcases cond_n h with ⟨c, h⟩ | ⟨c9, h⟩
  · simp only [Bool.or_eq_false_iff, decide_eq_false_iff_not] at c5; (try simp only [Bool.and_eq_true, Bool.or_eq_true, beq_iff_eq, bne_iff_ne, ne_eq, decide_eq_true_eq, wd8, wd16] at c); omega
  exact absurd rfl h
theorem one_range {op d : Int} (h : (hdOne op d).n ≠ 0) : 0 ≤ d ∧ d ≤ 20 := by
  unfold hdOne at h
  rcases cond_n h with ⟨c, h⟩ | ⟨c0, h⟩
  · (try simp only [Bool.and_eq_true, Bool.or_eq_true, beq_iff_eq, bne_iff_ne, ne_eq, decide_eq_true_eq, wd8, wd16] at c); omega
  rcases cond_n h with ⟨c, h⟩ | ⟨c1, h⟩
  · (try simp only [Bool.and_eq_true, Bool.or_eq_true, beq_iff_eq, bne_iff_ne, ne_eq, decide_eq_true_eq, wd8, wd16] at c); omega
  rcases cond_n h with ⟨c, h⟩ | ⟨c2, h⟩
  · (try simp only [Bool.and_eq_true, Bool.or_eq_true, beq_iff_eq, bne_iff_ne, ne_eq, decide_eq_true_eq, wd8, wd16] at c); omega
  rcases cond_n h with ⟨c, h⟩ | ⟨c3, h⟩
  · simp only [Bool.and_eq_true, bne_iff_ne, ne_eq, decide_eq_true_eq] at c; have := wd0 c.2; omega
  rcases cond_n h with ⟨c, h⟩ | ⟨c4, h⟩
  · (try simp only [Bool.and_eq_true, Bool.or_eq_true, beq_iff_eq, bne_iff_ne, ne_eq, decide_eq_true_eq, wd8, wd16] at c); omega
  rcases cond_n h with ⟨c, h⟩ | ⟨c5, h⟩
  · (try simp only [Bool.and_eq_true, Bool.or_eq_true, beq_iff_eq, bne_iff_ne, ne_eq, decide_eq_true_eq, wd8, wd16] at c); omega
  exact absurd rfl h
theorem hd_range {op d s : Int} (h : (hd op d s).n ≠ 0) : 1 ≤ op ∧ op ≤ 51 ∧ 0 ≤ d ∧ d ≤ 20 ∧ 0 ≤ s ∧ s ≤ 20 := by
  unfold hd at h
  rcases cond_n h with ⟨c, h⟩ | ⟨c0, h⟩
  · exact absurd rfl h
  rcases cond_n h with ⟨c, h⟩ | ⟨c1, h⟩
  · exact two_range h
  rcases cond_n h with ⟨c, h⟩ | ⟨c2, h⟩
  · simp only [Bool.or_eq_false_iff, bne_eq_false_iff_eq, beq_eq_false_iff_ne] at c1; have := one_range h; (try simp only [Bool.and_eq_true, Bool.or_eq_true, beq_iff_eq, bne_iff_ne, ne_eq, decide_eq_true_eq, wd8, wd16] at c); omega
  rcases cond_n h with ⟨c, h⟩ | ⟨c3, h⟩
  · simp only [Bool.or_eq_false_iff, bne_eq_false_iff_eq, beq_eq_false_iff_ne] at c1; (try simp only [Bool.and_eq_true, Bool.or_eq_true, beq_iff_eq, bne_iff_ne, ne_eq, decide_eq_true_eq, wd8, wd16] at c); omega
  rcases cond_n h with ⟨c, h⟩ | ⟨c4, h⟩
  · simp only [Bool.or_eq_false_iff, bne_eq_false_iff_eq, beq_eq_false_iff_ne] at c1; (try simp only [Bool.and_eq_true, Bool.or_eq_true, beq_iff_eq, bne_iff_ne, ne_eq, decide_eq_true_eq, wd8, wd16] at c); omega
  rcases cond_n h with ⟨c, h⟩ | ⟨c5, h⟩
  · exact absurd rfl h
  rcases cond_n h with ⟨c, h⟩ | ⟨c6, h⟩
  · simp only [Bool.or_eq_false_iff, bne_eq_false_iff_eq, beq_eq_false_iff_ne] at c1; simp only [bne_eq_false_iff_eq] at c5; (try simp only [Bool.and_eq_true, Bool.or_eq_true, beq_iff_eq, bne_iff_ne, ne_eq, decide_eq_true_eq, wd8, wd16] at c); omega
  rcases cond_n h with ⟨c, h⟩ | ⟨c7, h⟩
  · simp only [Bool.or_eq_false_iff, bne_eq_false_iff_eq, beq_eq_false_iff_ne] at c1; simp only [bne_eq_false_iff_eq] at c5; (try simp only [Bool.and_eq_true, Bool.or_eq_true, beq_iff_eq, bne_iff_ne, ne_eq, decide_eq_true_eq, wd8, wd16] at c); omega
  rcases cond_n h with ⟨c, h⟩ | ⟨c8, h⟩
  · simp only [Bool.or_eq_false_iff, bne_eq_false_iff_eq, beq_eq_false_iff_ne] at c1; simp only [bne_eq_false_iff_eq] at c5; (try simp only [Bool.and_eq_true, Bool.or_eq_true, beq_iff_eq, bne_iff_ne, ne_eq, decide_eq_true_eq, wd8, wd16] at c); omega
  rcases cond_n h with ⟨c, h⟩ | ⟨c9, h⟩
  · simp only [Bool.or_eq_false_iff, bne_eq_false_iff_eq, beq_eq_false_iff_ne] at c1; simp only [bne_eq_false_iff_eq] at c5; (try simp only [Bool.and_eq_true, Bool.or_eq_true, beq_iff_eq, bne_iff_ne, ne_eq, decide_eq_true_eq, wd8, wd16] at c); omega
  exact absurd rfl h
end Go.Proofs.Ytkemllgkkngcjaa
namespace Go.Proofs.Ytkemllgkkngcjaa
open Go Go.Ly Go.RowKit
theorem and7 (n : Int) : bits .and .u8 n 7 = n % 8 := by
  have h1 : (BitVec.ofInt 8 7).toNat = 2 ^ 3 - 1 := by decide
  have key : (BitVec.ofInt 8 n &&& BitVec.ofInt 8 7).toNat = (n % ((2 ^ 8 : Nat) : Int)).toNat % 2 ^ 3 := by
    rw [BitVec.toNat_and, BitVec.toNat_ofInt, h1, Nat.and_two_pow_sub_one_eq_mod]
  show IntKind.u8.wrap ((BitVec.ofInt 8 n &&& BitVec.ofInt 8 7).toNat : Nat) = n % 8
  rw [key, IntKind.wrap_u8]
  omega
theorem fin8 {p : Int → Prop} (h : ∀ n : Fin 8, p (n.val : Int)) (b : Int) (h0 : 0 ≤ b) (h1 : b ≤ 7) : p b := fin_all 8 h b h0 (by omega)
def in7 (x : Int) : Bool := decide (0 ≤ x) && decide (x ≤ 7)
theorem in7_iff (x : Int) : in7 x = true ↔ 0 ≤ x ∧ x ≤ 7 := by unfold in7; rw [Bool.and_eq_true, decide_eq_true_eq, decide_eq_true_eq]
theorem or_rm (x y : Int) (hx : 0 ≤ x ∧ x ≤ 7) (hy : 0 ≤ y ∧ y ≤ 7) : bits .or .u8 (bits .or .u8 192 (IntKind.u8.wrap (x * 8))) y = 192 + x * 8 + y :=
  fin8 (p := fun x => bits .or .u8 (bits .or .u8 192 (IntKind.u8.wrap (x * 8))) y = 192 + x * 8 + y) (fun n => fin8 (p := fun y => bits .or .u8 (bits .or .u8 192 (IntKind.u8.wrap ((n.val : Int) * 8))) y = 192 + (n.val : Int) * 8 + y) (by revert n; decide) y hy.1 hy.2) x hx.1 hx.2
theorem or_mem (x y : Int) (hx : 0 ≤ x ∧ x ≤ 7) (hy : 0 ≤ y ∧ y ≤ 7) : bits .or .u8 (IntKind.u8.wrap (x * 8)) y = x * 8 + y :=
  fin8 (p := fun x => bits .or .u8 (IntKind.u8.wrap (x * 8)) y = x * 8 + y) (fun n => fin8 (p := fun y => bits .or .u8 (IntKind.u8.wrap ((n.val : Int) * 8)) y = (n.val : Int) * 8 + y) (by revert n; decide) y hy.1 hy.2) x hx.1 hx.2
theorem nm_7 (c : Int) : 0 ≤ nm c ∧ nm c ≤ 7 := by unfold nm; omega
theorem nm_in (c : Int) : in7 (nm c) = true := (in7_iff _).2 (nm_7 c)
theorem wideR0 (c : Int) : (Ly.run env.bare 100 [(0, true), (2, true)] (Ly.start Try.f27 [.int .i64 c] H0)).out? = some ([(decide (1 ≤ c) == true, true), (decide (c ≤ 8), true)], .int .i64 8) := by kernel_rfl
theorem wideR1 (c : Int) : (Ly.run env.bare 100 [(0, true), (2, false), (0, true), (2, true)] (Ly.start Try.f27 [.int .i64 c] H0)).out? = some ([(decide (1 ≤ c) == true, true), (decide (c ≤ 8), false), (decide (9 ≤ c) == true, true), (decide (c ≤ 16), true)], .int .i64 16) := by kernel_rfl
theorem wideR2 (c : Int) : (Ly.run env.bare 100 [(0, true), (2, false), (0, true), (2, false)] (Ly.start Try.f27 [.int .i64 c] H0)).out? = some ([(decide (1 ≤ c) == true, true), (decide (c ≤ 8), false), (decide (9 ≤ c) == true, true), (decide (c ≤ 16), false)], .int .i64 0) := by kernel_rfl
theorem wideR3 (c : Int) : (Ly.run env.bare 100 [(0, false), (3, false)] (Ly.start Try.f27 [.int .i64 c] H0)).out? = some ([(decide (1 ≤ c) == true, false), (decide (9 ≤ c) == true, false)], .int .i64 0) := by kernel_rfl
theorem numR0 (c : Int) : (Ly.run env.bare 100 [] (Ly.start Try.f29 [.int .i64 c] H0)).out? = some ([], .int .u8 (bits BinOp.and IntKind.u8 (IntKind.u8.wrap (IntKind.i64.wrap (c - 1))) 7)) := by kernel_rfl
theorem rmR0 (x y : Int) : (Ly.run env.bare 100 [] (Ly.start Try.f28 [.int .u8 x, .int .u8 y] H0)).out? = some ([], .int .u8 (bits BinOp.or IntKind.u8 (bits BinOp.or IntKind.u8 192 (IntKind.u8.wrap (x * 8))) y)) := by kernel_rfl
theorem memR0 (x y : Int) : (Ly.run env.bare 100 [] (Ly.start Try.f31 [.int .u8 x, .int .u8 y] H0)).out? = some ([], .int .u8 (bits BinOp.or IntKind.u8 (IntKind.u8.wrap (x * 8)) y)) := by kernel_rfl
theorem regR0 (x : Int) : (Ly.run env.bare 100 [] (Ly.start Try.f20 [.int .u8 x, .bool true] H0)).out? = some ([], .int .i64 (IntKind.i64.wrap (IntKind.i64.wrap (bits BinOp.and IntKind.u8 x 7) + 9))) := by kernel_rfl
theorem regR1 (x : Int) : (Ly.run env.bare 100 [] (Ly.start Try.f20 [.int .u8 x, .bool false] H0)).out? = some ([], .int .i64 (IntKind.i64.wrap (IntKind.i64.wrap (bits BinOp.and IntKind.u8 x 7) + 1))) := by kernel_rfl
def wideC (l : List Value) : Option (Bool × Value) := match l with
  | [.int .i64 c] => some (true, .int .i64 (wd c))
  | _ => none
theorem gWide : env.bare.fn.get 27 = some Try.f27 := by kernel_rfl
theorem Wide_ans : Answers Try.prog 27 wideC := by
  intro args g v h hg
  unfold wideC at h
  split at h
  · simp only [Option.some.injEq, Prod.mk.injEq] at h
    obtain ⟨rfl, rfl⟩ := h
    refine ⟨by simp [plain, plainL], by simp [plain], fun w => ?_⟩
    rename_i c
    by_cases h1 : 1 ≤ c
    · by_cases h2 : c ≤ 8
      · rw [wd8.2 ⟨h1, h2⟩]; exact calls_trust (Env.bare_ok envOk) 100 _ gWide (by kernel_rfl) (by simp [plain, plainL]) (by simp [plain]) (wideR0 c) (by simp [trusted, h1, h2]) w
      · by_cases h4 : c ≤ 16
        · rw [wd16.2 ⟨by omega, h4⟩]; exact calls_trust (Env.bare_ok envOk) 100 _ gWide (by kernel_rfl) (by simp [plain, plainL]) (by simp [plain]) (wideR1 c) (by simp [trusted, h1, h2, h4]; omega) w
        · have e : wd c = 0 := by
            by_cases e : wd c = 0
            · exact e
            · have := wd0 e; omega
          rw [e]; exact calls_trust (Env.bare_ok envOk) 100 _ gWide (by kernel_rfl) (by simp [plain, plainL]) (by simp [plain]) (wideR2 c) (by simp [trusted, h1, h2, h4]; omega) w
    · have e : wd c = 0 := by
        by_cases e : wd c = 0
        · exact e
        · have := wd0 e; omega
      rw [e]; exact calls_trust (Env.bare_ok envOk) 100 _ gWide (by kernel_rfl) (by simp [plain, plainL]) (by simp [plain]) (wideR3 c) (by simp [trusted, h1]; omega) w
  · cases h
def numC (l : List Value) : Option (Bool × Value) := match l with
  | [.int .i64 c] => some (true, .int .u8 (nm c))
  | _ => none
theorem gNum : env.bare.fn.get 29 = some Try.f29 := by kernel_rfl
theorem Num_ans : Answers Try.prog 29 numC := by
  intro args g v h hg
  unfold numC at h
  split at h
  · simp only [Option.some.injEq, Prod.mk.injEq] at h
    obtain ⟨rfl, rfl⟩ := h
    refine ⟨by simp [plain, plainL], by simp [plain], fun w => ?_⟩
    rename_i c
    have e : bits BinOp.and IntKind.u8 (IntKind.u8.wrap (IntKind.i64.wrap (c - 1))) 7 = nm c := by
      rw [and7, IntKind.wrap_u8, IntKind.wrap_i64]; unfold nm; omega
    rw [← e]; exact calls_trust (Env.bare_ok envOk) 100 _ gNum (by kernel_rfl) (by simp [plain, plainL]) (by simp [plain]) (numR0 c) trivial w
  · cases h
def rmC (l : List Value) : Option (Bool × Value) := match l with
  | [.int .u8 x, .int .u8 y] => some (in7 x && in7 y, .int .u8 (192 + x * 8 + y))
  | _ => none
theorem gRm : env.bare.fn.get 28 = some Try.f28 := by kernel_rfl
theorem Rm_ans : Answers Try.prog 28 rmC := by
  intro args g v h hg
  unfold rmC at h
  split at h
  · simp only [Option.some.injEq, Prod.mk.injEq] at h
    obtain ⟨rfl, rfl⟩ := h
    refine ⟨by simp [plain, plainL], by simp [plain], fun w => ?_⟩
    rename_i x y
    simp only [Bool.and_eq_true, in7_iff] at hg
    rw [← or_rm x y hg.1 hg.2]; exact calls_trust (Env.bare_ok envOk) 100 _ gRm (by kernel_rfl) (by simp [plain, plainL]) (by simp [plain]) (rmR0 x y) trivial w
  · cases h
def meC (l : List Value) : Option (Bool × Value) := match l with
  | [.int .u8 x, .int .u8 y] => some (in7 x && in7 y, .int .u8 (x * 8 + y))
  | _ => none
theorem gMe : env.bare.fn.get 31 = some Try.f31 := by kernel_rfl
theorem Me_ans : Answers Try.prog 31 meC := by
  intro args g v h hg
  unfold meC at h
  split at h
  · simp only [Option.some.injEq, Prod.mk.injEq] at h
    obtain ⟨rfl, rfl⟩ := h
    refine ⟨by simp [plain, plainL], by simp [plain], fun w => ?_⟩
    rename_i x y
    simp only [Bool.and_eq_true, in7_iff] at hg
    rw [← or_mem x y hg.1 hg.2]; exact calls_trust (Env.bare_ok envOk) 100 _ gMe (by kernel_rfl) (by simp [plain, plainL]) (by simp [plain]) (memR0 x y) trivial w
  · cases h
def regC (l : List Value) : Option (Bool × Value) := match l with
  | [.int .u8 x, .bool w0] => some (true, .int .i64 (rgs x w0))
  | _ => none
theorem gReg : env.bare.fn.get 20 = some Try.f20 := by kernel_rfl
theorem Reg_ans : Answers Try.prog 20 regC := by
  intro args g v h hg
  unfold regC at h
  split at h
  · simp only [Option.some.injEq, Prod.mk.injEq] at h
    obtain ⟨rfl, rfl⟩ := h
    refine ⟨by simp [plain, plainL], by simp [plain], fun w => ?_⟩
    rename_i x w0
    cases w0 with
    | true =>
      have e : IntKind.i64.wrap (IntKind.i64.wrap (bits BinOp.and IntKind.u8 x 7) + 9) = rgs x true := by
        show _ = x % 8 + 9
        rw [and7, IntKind.wrap_i64, IntKind.wrap_i64]; omega
      rw [← e]; exact calls_trust (Env.bare_ok envOk) 100 _ gReg (by kernel_rfl) (by simp [plain, plainL]) (by simp [plain]) (regR0 x) trivial w
    | false =>
      have e : IntKind.i64.wrap (IntKind.i64.wrap (bits BinOp.and IntKind.u8 x 7) + 1) = rgs x false := by
        show _ = x % 8 + 1
        rw [and7, IntKind.wrap_i64, IntKind.wrap_i64]; omega
      rw [← e]; exact calls_trust (Env.bare_ok envOk) 100 _ gReg (by kernel_rfl) (by simp [plain, plainL]) (by simp [plain]) (regR1 x) trivial w
  · cases h
def ctxW : Ctx := env.bare.with 27 wideC |>.with 29 numC |>.with 28 rmC |>.with 31 meC |>.with 20 regC
theorem ctxW_ok : ctxW.Ok Try.prog := (Env.bare_ok envOk).with Wide_ans |>.with Num_ans |>.with Rm_ans |>.with Me_ans |>.with Reg_ans
end Go.Proofs.Ytkemllgkkngcjaa
namespace Go.Ly
open Go.RowKit
theorem VRL_get {ρ : Ren} : ∀ {l l' : List Value}, VRL ρ l l' → ∀ {i : Nat} {v : Value}, l[i]? = some v → ∃ v', l'[i]? = some v' ∧ VR ρ v v'
  | [], _, _, i, v, hi => by simp at hi
  | x :: r, l', h, i, v, hi => by
    simp only [VRL] at h
    obtain ⟨x', r', h1, h2, rfl⟩ := h
    cases i with
    | zero => simp at hi; subst hi; exact ⟨x', rfl, h1⟩
    | succ i =>
      obtain ⟨v', h3, h4⟩ := VRL_get h2 (i := i) (by simpa using hi)
      exact ⟨v', by simpa using h3, h4⟩
theorem VRL_length {ρ : Ren} : ∀ {l l' : List Value}, VRL ρ l l' → l'.length = l.length
  | [], _, h => by simp only [VRL] at h; subst h; rfl
  | x :: r, l', h => by
    simp only [VRL] at h
    obtain ⟨x', r', h1, h2, rfl⟩ := h
    simp [VRL_length h2]
def pairNew (H : Heap) (g : Nat → Value) (n : Nat) (t : TypeId) (x : Value) : ER := bif Nat.beq H.lock 0 && Nat.blt (H.next + 1) 2147483000 then .mem (.tuple ⟨[sl H.next n, x]⟩) (H.new (.fn 1 (fun e _ => g e) n t)) else .no
theorem pairNew_good {P : Program} {f : FuncId} {args : List Value} {x : Value} {r n : Nat} {c : List Value} {t : TypeId} {g : Nat → Value} (ha : plainL args = true) (hx : plain x = true) (hc : c.all cst = true) (hn : c.length = n) (hn0 : n ≠ 0)
    (hg : ∀ e, e < n → c[e]? = some (g e))
    (h : LCalls P f args H0 (fun u K => u = .tuple ⟨[.slice (some ⟨r, 0, none⟩) n 18446744073709551616, x]⟩ ∧ K.get r = some (.row c t 1) ∧ K.lock = 0)) (H : Heap) : HGood P f args H (pairNew H g n t x) := by
  unfold pairNew
  cases hb0 : (Nat.beq H.lock 0 && Nat.blt (H.next + 1) 2147483000) with
  | false => exact trivial
  | true =>
    simp only [cond_true]
    rw [Bool.and_eq_true] at hb0
    have hb : H.next + 1 < big := by have := hb0.2; unfold big; rw [Nat.blt_eq] at this; exact this
    intro ρ args' w hva hr
    have hva0 := plainL_eq ha hva
    subst hva0
    refine (h ρ0 args' w (plainL_VR _ ha) (Rep0 w)).mono ?_
    rintro e w' ⟨ρ2, u, u', K, rfl, ⟨rfl, hK, hlk⟩, h1, h2, h3, h4, h5⟩
    have hbel : Below w.heap.size w w' := ⟨h5.os, h5.tape, h5.output, h5.size, fun k hk => h5.block k hk (fun i hi => by cases hi)⟩
    obtain ⟨q1, b, o', q2, q3, q4⟩ := h4.obj r _ hK rfl
    have hbnew : w.heap.size ≤ b := by
      rcases h2 r b q2 with h6 | ⟨j, h6, _⟩
      · exact h6
      · cases h6
    have hrB := hr.below hbel
    have hnone : ∀ i, ρ i ≠ some b := fun i e => by have := (hr.dom i b e).2; omega
    obtain ⟨z1, c', d', z2, z3, z4⟩ := q4
    have hlen := VRL_length z2
    have hOR : OR (ρ.ext H.next b (ρ2.cap r) 1) H.next (.fn 1 (fun e _ => g e) n t) o' := by
      refine ⟨by simp [Ren.ext], by simp [Ren.ext], c', d', z3, by rw [hlen, hn]; omega, by simp [Ren.ext]; omega, ⟨fun e j he hj => ?_, fun e j he hj => ?_⟩⟩
      · obtain ⟨v', k1, k2⟩ := VRL_get z2 (hg e he)
        refine ⟨v', ?_, ?_⟩
        · have : 0 + (e * 1 + j) = e := by omega
          rw [this]; exact k1
        · have hcst : cst (g e) = true := List.all_eq_true.1 hc _ (List.mem_of_getElem? (hg e he))
          exact VR_cst hcst k2
      · exact List.all_eq_true.1 hc _ (List.mem_of_getElem? (hg e he))
    have hRep := hrB.extNew (k := ρ2.cap r) (wd := 1) hb rfl (h4.dom r b q2).2 hnone q3 hOR
    refine ⟨ρ.ext H.next b (ρ2.cap r) 1, .tuple ⟨[sl H.next n, x]⟩, u', _, rfl, ⟨rfl, rfl⟩, hr.ext_le _ _ _, fun i y hy => ?_, ?_, hRep, Below.toKeep hbel⟩
    · simp only [Ren.ext] at hy
      split at hy
      · simp at hy; subst hy; exact .inl hbnew
      · rename_i e; exact .inr ⟨i, hy, by simp [Ren.ext, e]⟩
    · simp only [VR, VRL] at h3 ⊢
      obtain ⟨l', ⟨s', r', ⟨a', c2, rfl, y1, y2, y3⟩, ⟨x', e', hx', he', rfl⟩, rfl⟩, rfl⟩ := h3
      subst he'
      have := plain_eq hx hx'
      subst this
      refine ⟨_, ⟨_, _, ⟨a', c2, rfl, y1, fun hc => absurd rfl hc, fun hN => ?_⟩, ⟨_, _, plain_VR _ hx, rfl, rfl⟩, rfl⟩, rfl⟩
      obtain ⟨b', x1, x2, x3⟩ := y3 hN
      have hbb : b' = b := by
        have x1' : ρ2 r = some b' := x1
        rw [q2] at x1'; simp at x1'; exact x1'.symm
      subst hbb
      refine ⟨b', by simp [Ren.ext], ?_, ?_⟩
      · rw [x2]; simp [Ren.at, Ren.ext, z1]
      · intro hc _
        have := x3 rfl (by simp [Ren.at, z1])
        simpa [Ren.ext] using this
end Go.Ly
namespace Go.Ly
open Go.RowKit
def aggNew (H : Heap) (c : List Value) (t : TypeId) (x : Value) : ER := bif Nat.beq H.lock 0 && Nat.blt (H.next + 1) 2147483000 then .mem (.agg ⟨[.slice (some ⟨H.next, 0, none⟩) c.length c.length, x]⟩) (H.new (.cells c t)) else .no
theorem aggNew_good {P : Program} {f : FuncId} {args : List Value} {x : Value} {r : Nat} {c : List Value} {t : TypeId} (ha : plainL args = true) (hx : plain x = true) (hc : plainL c = true) (hcap : c.length ≠ capU)
    (h : LCalls P f args H0 (fun u K => u = .agg ⟨[.slice (some ⟨r, 0, none⟩) c.length c.length, x]⟩ ∧ K.get r = some (.cells c t) ∧ K.lock = 0)) (H : Heap) : HGood P f args H (aggNew H c t x) := by
  unfold aggNew
  cases hb0 : (Nat.beq H.lock 0 && Nat.blt (H.next + 1) 2147483000) with
  | false => exact trivial
  | true =>
    simp only [cond_true]
    rw [Bool.and_eq_true] at hb0
    have hb : H.next + 1 < big := by have := hb0.2; unfold big; rw [Nat.blt_eq] at this; exact this
    intro ρ args' w hva hr
    have hva0 := plainL_eq ha hva
    subst hva0
    refine (h ρ0 args' w (plainL_VR _ ha) (Rep0 w)).mono ?_
    rintro e w' ⟨ρ2, u, u', K, rfl, ⟨rfl, hK, hlk⟩, h1, h2, h3, h4, h5⟩
    have hbel : Below w.heap.size w w' := ⟨h5.os, h5.tape, h5.output, h5.size, fun k hk => h5.block k hk (fun i hi => by cases hi)⟩
    obtain ⟨q1, b, o', q2, q3, q4⟩ := h4.obj r _ hK rfl
    have hbnew : w.heap.size ≤ b := by
      rcases h2 r b q2 with h6 | ⟨j, h6, _⟩
      · exact h6
      · cases h6
    have hrB := hr.below hbel
    have hnone : ∀ i, ρ i ≠ some b := fun i e => by have := (hr.dom i b e).2; omega
    obtain ⟨z1, c', z2, z3⟩ := q4
    have hcc := plainL_eq hc z2
    subst hcc
    have hOR : OR (ρ.ext H.next b (ρ2.cap r) 1) H.next (.cells c' t) o' := ⟨by simp [Ren.ext], c', plainL_VR _ hc, z3⟩
    have hRep := hrB.extNew (k := ρ2.cap r) (wd := 1) hb rfl (h4.dom r b q2).2 hnone q3 hOR
    refine ⟨ρ.ext H.next b (ρ2.cap r) 1, _, u', _, rfl, ⟨rfl, rfl⟩, hr.ext_le _ _ _, fun i y hy => ?_, ?_, hRep, Below.toKeep hbel⟩
    · simp only [Ren.ext] at hy
      split at hy
      · simp at hy; subst hy; exact .inl hbnew
      · rename_i e; exact .inr ⟨i, hy, by simp [Ren.ext, e]⟩
    · simp only [VR, VRL] at h3 ⊢
      obtain ⟨l', ⟨s', r', ⟨a', c2, rfl, y1, y2, y3⟩, ⟨x', e', hx', he', rfl⟩, rfl⟩, rfl⟩ := h3
      subst he'
      have := plain_eq hx hx'
      subst this
      refine ⟨_, ⟨_, _, ⟨a', c2, rfl, y1, y2, fun hN => ?_⟩, ⟨_, _, plain_VR _ hx, rfl, rfl⟩, rfl⟩, rfl⟩
      obtain ⟨b', x1, x2, x3⟩ := y3 hN
      have hbb : b' = b := by
        have x1' : ρ2 r = some b' := x1
        rw [q2] at x1'; simp at x1'; exact x1'.symm
      subst hbb
      refine ⟨b', by simp [Ren.ext], ?_, fun hc _ => absurd hc hcap⟩
      rw [x2]; simp [Ren.at, Ren.ext, z1]
end Go.Ly
namespace Go.Proofs.Ytkemllgkkngcjaa
open Go Go.Ly Go.RowKit
def nilHd : Value := .agg ⟨[.slice none 0 0, .int .i64 0]⟩
def HdCall (op d s : Int) : Prop := ((hd op d s).n = 0 ∧ LCalls Try.prog 16 [.int .i64 op, .int .i64 d, .int .i64 s] H0 (fun u _ => u = nilHd)) ∨ ((hd op d s).n = 1 ∧ ∃ r, LCalls Try.prog 16 [.int .i64 op, .int .i64 d, .int .i64 s] H0 (fun u K => u = .agg ⟨[.slice (some ⟨r, 0, none⟩) 1 1, .int .i64 (hd op d s).t]⟩ ∧ K.get r = some (.cells [.int .u8 (hd op d s).b0] 5) ∧ K.lock = 0)) ∨ ((hd op d s).n = 2 ∧ ∃ r, LCalls Try.prog 16 [.int .i64 op, .int .i64 d, .int .i64 s] H0 (fun u K => u = .agg ⟨[.slice (some ⟨r, 0, none⟩) 2 2, .int .i64 (hd op d s).t]⟩ ∧ K.get r = some (.cells [.int .u8 (hd op d s).b0, .int .u8 (hd op d s).b1] 5) ∧ K.lock = 0))
theorem HdCall.zero {op d s : Int} {nx : Nat} (e : hd op d s = hdN) (h : Ly.Ends Try.prog 16 [.int .i64 op, .int .i64 d, .int .i64 s] [] [] nilHd nx []) : HdCall op d s :=
  .inl ⟨by rw [e]; rfl, LCalls.mono h (fun u K h => h.1)⟩
theorem HdCall.one {op d s b0 x t : Int} {nx r : Nat} (e : hd op d s = ⟨1, b0, 0, t⟩) (h : Ly.Ends Try.prog 16 [.int .i64 op, .int .i64 d, .int .i64 s] [] [r] (.agg ⟨[.slice (some ⟨r, 0, none⟩) 1 1, .int .i64 t]⟩) nx [some (.cells [.int .u8 x] 5)]) (ho : x = b0) : HdCall op d s := by
  subst ho
  refine .inr (.inl ⟨by rw [e], r, LCalls.mono h ?_⟩)
  rintro u K ⟨rfl, _, hk, hl⟩
  simp only [List.map_cons, List.map_nil, List.cons.injEq, and_true] at hk
  exact ⟨by rw [e], by rw [hk, e], hl⟩
theorem HdCall.two {op d s b0 b1 x y t : Int} {nx r : Nat} (e : hd op d s = ⟨2, b0, b1, t⟩) (h : Ly.Ends Try.prog 16 [.int .i64 op, .int .i64 d, .int .i64 s] [] [r] (.agg ⟨[.slice (some ⟨r, 0, none⟩) 2 2, .int .i64 t]⟩) nx [some (.cells [.int .u8 x, .int .u8 y] 5)]) (ho : x = b0) (ho' : y = b1) : HdCall op d s := by
  subst ho ho'
  refine .inr (.inr ⟨by rw [e], r, LCalls.mono h ?_⟩)
  rintro u K ⟨rfl, _, hk, hl⟩
  simp only [List.map_cons, List.map_nil, List.cons.injEq, and_true] at hk
  exact ⟨by rw [e], by rw [hk, e], hl⟩
theorem wd_ex (c : Int) : wd c = 8 ∨ wd c = 16 ∨ wd c = 0 := by
  unfold wd
  cases decide (1 ≤ c) && decide (c ≤ 8) with
  | true => exact .inl rfl
  | false => cases decide (9 ≤ c) && decide (c ≤ 16) with
    | true => exact .inr (.inl rfl)
    | false => exact .inr (.inr rfl)
theorem bq_t (b : Bool) : (b == true) = b := by cases b <;> rfl
theorem bq_f (b : Bool) : (b == false) = !b := by cases b <;> rfl
theorem or_nm (k : Int) (hk : k = 64 ∨ k = 72 ∨ k = 80 ∨ k = 88 ∨ k = 176 ∨ k = 184) (c : Int) : bits .or .u8 k (nm c) = k + nm c := by
  have h := nm_7 c
  rcases hk with rfl | rfl | rfl | rfl | rfl | rfl
  · exact fin8 (p := fun x => bits .or .u8 64 x = 64 + x) (by decide) (nm c) h.1 h.2
  · exact fin8 (p := fun x => bits .or .u8 72 x = 72 + x) (by decide) (nm c) h.1 h.2
  · exact fin8 (p := fun x => bits .or .u8 80 x = 80 + x) (by decide) (nm c) h.1 h.2
  · exact fin8 (p := fun x => bits .or .u8 88 x = 88 + x) (by decide) (nm c) h.1 h.2
  · exact fin8 (p := fun x => bits .or .u8 176 x = 176 + x) (by decide) (nm c) h.1 h.2
  · exact fin8 (p := fun x => bits .or .u8 184 x = 184 + x) (by decide) (nm c) h.1 h.2
theorem or_w1 (d : Int) (h : wd d ≠ 0) : bits .or .u8 208 (IntKind.u8.wrap (IntKind.i64.wrap ((wd d).tdiv 16))) = 208 + w1 d := by
  have h1 := wd0 h
  by_cases e : d ≤ 8
  · have : wd d = 8 := wd8.2 ⟨by omega, e⟩
    unfold w1; rw [this]; decide
  · have : wd d = 16 := wd16.2 ⟨by omega, by omega⟩
    unfold w1; rw [this]; decide
theorem nz : (∀ b : Bool, (b == true) = b) ∧ (∀ b : Bool, (b == false) = !b) ∧ (∀ b : Bool, ((!b) = true) = (b = false)) ∧ (∀ b : Bool, ((!b) = false) = (b = true)) := ⟨bq_t, bq_f, by decide, by decide⟩
theorem pA : (∀ a b : Int, ((a == b) = true) = (a = b)) ∧ (∀ a b : Int, ((a == b) = false) = (a ≠ b)) ∧ (∀ a b : Int, ((a != b) = true) = (a ≠ b)) ∧ (∀ a b : Int, ((a != b) = false) = (a = b)) :=
  ⟨fun a b => by simp, fun a b => by simp, fun a b => by simp, fun a b => by simp⟩
theorem wA : (∀ c, (wd c = 8) = (1 ≤ c ∧ c ≤ 8)) ∧ (∀ c, (wd c = 16) = (9 ≤ c ∧ c ≤ 16)) := ⟨fun c => propext wd8, fun c => propext wd16⟩
theorem cA : (∀ (α : Type) (x y : α), (bif true then x else y) = x) ∧ (∀ (α : Type) (x y : α), (bif false then x else y) = y) ∧ (∀ b : Bool, (b && true) = b ∧ (true && b) = b ∧ (b && false) = false ∧ (false && b) = false ∧ (b || true) = true ∧ (true || b) = true ∧ (b || false) = b ∧ (false || b) = b) := ⟨fun _ _ _ => rfl, fun _ _ _ => rfl, by decide⟩
theorem dA : (∀ a b : Int, (decide (a < b) = true) = (a < b)) ∧ (∀ a b : Int, (decide (a < b) = false) = ¬ (a < b)) ∧ (∀ a b : Int, (decide (a ≤ b) = true) = (a ≤ b)) ∧ (∀ a b : Int, (decide (a ≤ b) = false) = ¬ (a ≤ b)) := ⟨fun a b => by simp, fun a b => by simp, fun a b => by simp, fun a b => by simp⟩
theorem gHeads : ctxW.fn.get 16 = some Try.f16 := by kernel_rfl
abbrev hst (op d s : Int) : St := Ly.start Try.f16 [.int .i64 op, .int .i64 d, .int .i64 s] H0
def dp (l : List Nat) : Path := l.map fun x => (x / 2, x % 2 == 1)
end Go.Proofs.Ytkemllgkkngcjaa
end
