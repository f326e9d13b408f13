/- Part J: a small machine over local states, and that the model's machine does the same. -/
import Derived.Test.YtofimkcfenemlaaLyL
import Derived.Below
namespace Go.Ly
open Go.RowKit
set_option linter.unusedSimpArgs false
set_option linter.unusedVariables false

inductive KI where
  | code (c : Code)
  | inBlock (id : Nat)
  | inLoop (c : Code)
  | ops (all : Array Oper) (l : List Oper)
  | opsQ (all : Array Oper) (n : Nat) (l : List Oper)

structure Fr where
  fn : Func
  t : Tr Value
  k : List KI
  dst : Option Tmp

/-- 'base': the blocks below it are the caller's -/
structure St where
  top : Fr
  rest : List Fr
  H : Heap
  base : Nat

inductive SR where
  | go (S : St)
  | tst (b : Bool) (x y : SR)
  | done (v : Value) (H : Heap)
  | stop
  | no

/-- what is known of functions: their bodies, and of some what they answer (pure ones), or what they make of a heap -/
structure Ctx extends Env where
  con : Nat → Heap → List Value → ER
  opq : Nat → Bool
  hcon : Nat → Heap → List Value → ER

noncomputable def ConGood (P : Program) (f : Nat) (args : List Value) (w : World) : ER → Prop
  | .val v => (∀ ρ, VR ρ v v) ∧ Calls P f ⟨args⟩ w (fun e w' => e = .returned v ∧ Below w.heap.size w w')
  | .tst b x y => (b = true → ConGood P f args w x) ∧ (b = false → ConGood P f args w y)
  | _ => True

/-- from local arguments and a local heap every call comes to a value and a heap as said -/
noncomputable def LCalls (P : Program) (f : FuncId) (args : List Value) (H : Heap) (Q : Value → Heap → Prop) : Prop :=
  ∀ (ρ : Ren) (args' : List Value) (w : World), VRL ρ args args' → Rep ρ H w →
    Calls P f ⟨args'⟩ w (fun e w' => ∃ ρ' v v' H', e = .returned v' ∧ Q v H' ∧ Ren.le ρ ρ' ∧ Fresh ρ ρ' w ∧ VR ρ' v v' ∧ Rep ρ' H' w' ∧ Keep ρ w w')

noncomputable def HGood (P : Program) (f : Nat) (args : List Value) (H : Heap) : ER → Prop
  | .val v => LCalls P f args H (fun u K => u = v ∧ K = H)
  | .mem v H' => LCalls P f args H (fun u K => u = v ∧ K = H')
  | .tst b x y => (b = true → HGood P f args H x) ∧ (b = false → HGood P f args H y)
  | _ => True

structure Ctx.Ok (C : Ctx) (P : Program) : Prop extends C.toEnv.Ok P where
  con : ∀ f args ρ args' w H, VRL ρ args args' → Rep ρ H w → ConGood P f args' w (C.con f H args)
  hcon : ∀ f H args, HGood P f args H (C.hcon f H args)

/-! ### The actual frames -/
structure AF where
  fn : Func
  k : List KI
  dst : Option Tmp
  a : Act

/-- from behind a loop's round on -/
noncomputable def loopWp (P : Program) (c : Code) (Q : Exit → Act → World → Prop) (a : Act) (w : World) : Prop :=
  ∀ (b : Frame) (k : List Item) (cs : List Frame), ∃ e a' w', Q e a' w' ∧ Arrives P (lone (b.at a (.inLoop c :: k)) cs w) b k cs e a' w'

noncomputable def afterWp (P : Program) : List KI → (Exit → Act → World → Prop) → Exit → Act → World → Prop
  | [], Q, e, a, w => Q e a w
  | .code c :: k, Q, .normal, a, w => c.wp P (afterWp P k Q) a w
  | .inBlock _ :: k, Q, .normal, a, w => afterWp P k Q .normal a w
  | .inBlock id :: k, Q, .exit id', a, w => if id' = id then afterWp P k Q .normal a w else afterWp P k Q (.exit id') a w
  | .inLoop c :: k, Q, .normal, a, w => loopWp P c (afterWp P k Q) a w
  | .ops all l :: k, Q, .normal, a, w => wpList P all (afterWp P k Q) l a w
  | .opsQ all n l :: k, Q, .normal, a, w => wpQuiet P all (Below w.heap.size w) (fun a' => ∀ w', Below w.heap.size w w' → wpList P all (afterWp P k Q) (all.toList.drop n) a' w') l a
  | _ :: k, Q, e, a, w => afterWp P k Q e a w

noncomputable def resumeWp (P : Program) : List AF → (Value → World → Prop) → Value → World → Prop
  | [], R, v, w => R v w
  | f :: r, R, v, w => afterWp P f.k (bodyPost P f.fn (fun e w => ∃ v', e = .returned v' ∧ resumeWp P r R v' w)) .normal (f.a.put f.dst v) w

noncomputable def topPost (P : Program) (fn : Func) (rest : List AF) (R : Value → World → Prop) : Exit → Act → World → Prop :=
  bodyPost P fn (fun e w => ∃ v', e = .returned v' ∧ resumeWp P rest R v' w)

noncomputable def stateWp (P : Program) (g : AF) (gs : List AF) (R : Value → World → Prop) (w : World) : Prop :=
  afterWp P g.k (topPost P g.fn gs R) .normal g.a w

structure FR (ρ : Ren) (f : Fr) (g : AF) : Prop where
  fn : g.fn = f.fn
  k : g.k = f.k
  dst : g.dst = f.dst
  t : TR ρ f.fn.ntmps f.t g.a

noncomputable def FRL (ρ : Ren) : List Fr → List AF → Prop
  | [], l => l = []
  | f :: r, l => ∃ g r', FR ρ f g ∧ FRL ρ r r' ∧ l = g :: r'

theorem FR.mono {ρ ρ' : Ren} (h : Ren.le ρ ρ') {f : Fr} {g : AF} (hf : FR ρ f g) : FR ρ' f g := ⟨hf.fn, hf.k, hf.dst, hf.t.mono h⟩
theorem FRL.mono {ρ ρ' : Ren} (h : Ren.le ρ ρ') : ∀ {l : List Fr} {l' : List AF}, FRL ρ l l' → FRL ρ' l l'
  | [], _, e => e
  | f :: r, _, e => by
    simp only [FRL] at e ⊢
    obtain ⟨g, r', h1, h2, rfl⟩ := e
    exact ⟨g, r', h1.mono h, FRL.mono h h2, rfl⟩

/-- what is known of the caller's blocks -/
def Ren.cut (ρ : Ren) (n : Nat) : Ren := ⟨fun i => if i < n then ρ i else none, ρ.cap, ρ.ro, ρ.off, ρ.wd⟩
theorem Ren.cut_le {ρ ρ' : Ren} (h : Ren.le ρ ρ') (n : Nat) : Ren.le (ρ.cut n) (ρ'.cut n) := fun i b e => by
  simp only [Ren.cut] at e
  split at e
  · rename_i hi
    have := h i b e
    exact ⟨by simp only [Ren.cut]; rw [if_pos hi, if_pos hi]; exact this.b, this.cap, this.ro, this.off, this.wd⟩
  · cases e
theorem Ren.le_cut (ρ : Ren) (n : Nat) : Ren.le (ρ.cut n) ρ := fun i b e => by
  simp only [Ren.cut] at e
  split at e
  · rename_i hi; exact ⟨by simp only [Ren.cut]; rw [if_pos hi], rfl, rfl, rfl, rfl⟩
  · cases e

/-- from a local state every run comes to a value and a heap as said -/
noncomputable def MWp (P : Program) (S : St) (Q : Value → Heap → Prop) : Prop :=
  ∀ (ρ : Ren) (w : World) (g : AF) (gs : List AF) (R : Value → World → Prop), Rep ρ S.H w → FR ρ S.top g → FRL ρ S.rest gs →
    (∀ (ρ' : Ren) (v v' : Value) (H' : Heap) (w' : World), Q v H' → Ren.le (ρ.cut S.base) ρ' → Fresh ρ ρ' w → VR ρ' v v' → Rep ρ' H' w' → Keep ρ w w' → R v' w') → stateWp P g gs R w

/-- what a step's outcome asks -/
noncomputable def SR.sat (P : Program) (Q : Value → Heap → Prop) : SR → Prop
  | .go S => MWp P S Q
  | .tst b x y => (b = true → x.sat P Q) ∧ (b = false → y.sat P Q)
  | .done v H => Q v H
  | .stop => False
  | .no => False

/-! ### One step -/
noncomputable def putFr (S : St) (k : List KI) (dst : Option Tmp) (v : Value) (H : Heap) : SR :=
  bif dstOk S.top.fn.ntmps dst then .go { S with top := { S.top with t := putT S.top.t dst v, k := k }, H := H } else .no

noncomputable def trArgs : List Value → Nat → Tr Value → Tr Value
  | [], _, t => t
  | v :: r, i, t => trArgs r (i + 1) (t.set i (some v))

noncomputable def enterFr (C : Ctx) (S : St) (k : List KI) (dst : Option Tmp) (f : Nat) (args : List Value) : SR :=
  match C.fn.get f with
  | none => .no
  | some fn =>
    match fn.body with
    | none => .no
    | some c =>
      bif Nat.ble args.length fn.ntmps && (Nat.blt fn.ntmps 1000000 && dstOk S.top.fn.ntmps dst) then
        .go { top := { fn := fn, t := trArgs args 0 .nil, k := [.code c], dst := none }, rest := { S.top with k := k, dst := dst } :: S.rest, H := S.H, base := S.base }
      else .no

noncomputable def conSR (S : St) (k : List KI) (dst : Option Tmp) (alt : SR) : ER → SR
  | .val v => putFr S k dst v S.H
  | .tst b x y => .tst b (conSR S k dst alt x) (conSR S k dst alt y)
  | _ => alt

noncomputable def hconSR (S : St) (k : List KI) (dst : Option Tmp) : ER → SR
  | .val v => putFr S k dst v S.H
  | .mem v H => putFr S k dst v H
  | .tst b x y => .tst b (hconSR S k dst x) (hconSR S k dst y)
  | _ => .stop

noncomputable def applyER (C : Ctx) (S : St) (k : List KI) (dst : Option Tmp) : ER → SR
  | .val v => putFr S k dst v S.H
  | .mem v H => putFr S k dst v H
  | .skip H => putFr S k dst undef H
  | .call f args => bif C.opq f then conSR S k dst (hconSR S k dst (C.hcon f S.H args)) (C.con f S.H args) else enterFr C S k dst f args
  | .tst b x y => .tst b (applyER C S k dst x) (applyER C S k dst y)
  | .no => .no

/-- a guard: none, or the slot that is asked, and for what -/
noncomputable def guardSR (all : Array Oper) (t : Tr Value) (n : Nat) (o : Oper) (yes els : SR) : SR :=
  match o.guard with
  | none => yes
  | some (j, want) =>
    match (all.toList[j]?).bind (·.dst) with
    | none => els
    | some d =>
      bif Nat.blt d n then
        (match (t.get d).getD undef with
        | .bool b => .tst (b == want) yes els
        | .tuple _ => els
        | _ => .no)
      else .no

noncomputable def stepOps (C : Ctx) (S : St) (all : Array Oper) (l : List Oper) (k : List KI) : SR :=
  match l with
  | [] => .go { S with top := { S.top with k := k } }
  | o :: l => guardSR all S.top.t S.top.fn.ntmps o (applyER C S (.ops all l :: k) o.dst (evOp C.toEnv S.H S.top.t o)) (putFr S (.ops all l :: k) o.dst undef S.H)

/-! a region whose order is open: what only reads comes first -/
mutual
/-- a value that stands for just one -/
noncomputable def rig : Value → Bool
  | .bool _ | .int _ _ | .string _ | .pointer _ | .slice none _ _ | .map _ | .nilFunc | .nilIface => true
  | .slice (some _) n c => Nat.blt 0 n && !(Nat.beq c 18446744073709551616)
  | .func _ ⟨xs⟩ ⟨ys⟩ => rigL xs && rigL ys
  | .iface _ x => rig x
  | .agg ⟨xs⟩ => rigL xs
  | .tuple ⟨xs⟩ => rigL xs
  | _ => false
noncomputable def rigL : List Value → Bool
  | [] => true
  | v :: r => rig v && rigL r
end

noncomputable def quietOp (C : Ctx) (o : Oper) : Bool :=
  match o.op with
  | .move _ | .assign _ | .pick .. | .build .. | .load .. | .nilCheck _ | .binOp .. | .unOp .. | .convert .. | .makeFunc .. | .slice .. | .fieldAddr .. | .field .. | .indexAddr .. | .index .. | .extract .. => true
  | .call c => match c.callee with
    | .value (.func f) => C.opq f
    | .builtin .len => true
    | _ => false
  | _ => false

noncomputable def quietN (C : Ctx) : List Oper → Nat
  | [] => 0
  | o :: l => bif quietOp C o then quietN C l + 1 else 0

noncomputable def applyQ (C : Ctx) (S : St) (k : List KI) (dst : Option Tmp) (free : Bool) : ER → SR
  | .val v => bif free || rig v then putFr S k dst v S.H else .no
  | .call f args => bif C.opq f then conSR S k dst .no (C.con f S.H args) else .no
  | .tst b x y => .tst b (applyQ C S k dst free x) (applyQ C S k dst free y)
  | _ => .no

noncomputable def stepOpsQ (C : Ctx) (S : St) (all : Array Oper) (n : Nat) (l : List Oper) (k : List KI) : SR :=
  match l with
  | [] => .go { S with top := { S.top with k := .ops all (all.toList.drop n) :: k } }
  | o :: l => guardSR all S.top.t S.top.fn.ntmps o (applyQ C S (.opsQ all n l :: k) o.dst (isFree o.op) (evOp C.toEnv S.H S.top.t o)) (putFr S (.opsQ all n l :: k) o.dst undef S.H)

noncomputable def enterQ (C : Ctx) (S : St) (ops : Array Oper) (k : List KI) : SR :=
  bif Nat.beq (quietN C ops.toList) ops.size then
    (bif Region.lexB .any ops then .go { S with top := { S.top with k := .opsQ ops ops.size ops.toList :: k } } else .no)
  else
    (bif Region.lexTailB .any ops (quietN C ops.toList) then .go { S with top := { S.top with k := .opsQ ops (quietN C ops.toList) (ops.toList.take (quietN C ops.toList)) :: k } } else .no)

noncomputable def exitK (id : Nat) : List KI → Option (List KI)
  | [] => none
  | .inBlock id' :: k => bif Nat.beq id' id then some k else exitK id k
  | _ :: k => exitK id k

noncomputable def evRes (E : Env) (H : Heap) (t : Tr Value) : List ResultVar → Option (List Value)
  | [] => some []
  | .tmp i :: r => match evRes E H t r with
    | some l => some ((t.get i).getD undef :: l)
    | none => none
  | .cell i ty :: r => match evLoad E H ty ((t.get i).getD undef), evRes E H t r with
    | .val v, some l => some (v :: l)
    | _, _ => none

noncomputable def oneOrAll : List Value → Value
  | [v] => v
  | l => .tuple ⟨l⟩

noncomputable def stepRet (C : Ctx) (S : St) : SR :=
  match evRes C.toEnv S.H S.top.t S.top.fn.results.toList with
  | none => .no
  | some l =>
    match S.rest with
    | [] => .done (oneOrAll l) S.H
    | f :: r => bif dstOk f.fn.ntmps f.dst then .go { top := { f with t := putT f.t f.dst (oneOrAll l) }, rest := r, H := S.H, base := S.base } else .no

noncomputable def stepCode (C : Ctx) (S : St) (c : Code) (k : List KI) : SR :=
  match c with
  | .skip => .go { S with top := { S.top with k := k } }
  | .label _ => .go { S with top := { S.top with k := k } }
  | .seq a b => .go { S with top := { S.top with k := .code a :: .code b :: k } }
  | .cond x a b => match evx S.top.t x with
    | some (.bool q) => .tst q (.go { S with top := { S.top with k := .code a :: k } }) (.go { S with top := { S.top with k := .code b :: k } })
    | _ => .no
  | .block id a => .go { S with top := { S.top with k := .code a :: .inBlock id :: k } }
  | .loop a => .go { S with top := { S.top with k := .code a :: .inLoop a :: k } }
  | .exit id => match exitK id k with
    | some k' => .go { S with top := { S.top with k := k' } }
    | none => .no
  | .ret => stepRet C S
  | .region _ ops false => .go { S with top := { S.top with k := .ops ops ops.toList :: k } }
  | .region _ ops true => enterQ C S ops k
  | _ => .no

noncomputable def step (C : Ctx) (S : St) : SR :=
  match S.top.k with
  | [] => stepRet C S
  | .code c :: k => stepCode C S c k
  | .inBlock _ :: k => .go { S with top := { S.top with k := k } }
  | .inLoop c :: k => .go { S with top := { S.top with k := .code c :: .inLoop c :: k } }
  | .ops all l :: k => stepOps C S all l k
  | .opsQ all n l :: k => stepOpsQ C S all n l k
end Go.Ly
