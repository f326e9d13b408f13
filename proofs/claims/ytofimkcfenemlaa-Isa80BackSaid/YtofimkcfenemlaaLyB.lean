/- Part B: the operations, evaluated over local values and heaps, and that the model does the same. -/
import Derived.Test.YtofimkcfenemlaaLyA
import Derived.Laws.StructEq
import Derived.Laws.IdiomCopy
namespace Go.Ly

structure TI where
  desc : TypeDesc
  size : Nat
  zero : Option Value
  bytes : Nat
  eqok : Bool

structure Env where
  ty : Tr TI
  fn : Tr Func

structure Env.Ok (E : Env) (P : Program) : Prop where
  ty : ∀ t i, E.ty.get t = some i → P.underlying t = some i.desc ∧ (∃ j, P.info? t = some j ∧ j.size = i.size ∧ j.zero = i.zero ∧ j.bytes = i.bytes) ∧ (i.eqok = true → P.stoodInHeld t = false ∧ P.eqGuardType P.depth t = false)
  fn : ∀ f g, E.fn.get f = some g → P.funcs[f]? = some g ∧ g.body.isSome = true ∧ (g.name == "runtime.NumGoroutine") = false
  fol : P.follows .mixedOrders = true

/-! ### Temporaries -/
structure TR (ρ : Ren) (n : Nat) (t : Tr Value) (a : Act) : Prop where
  size : a.tmps.size = n
  small : n < big
  val : ∀ i, VR ρ ((t.get i).getD undef) (a.tmps.getD i undef)
  defers : a.defers = []

theorem TR.mono {ρ ρ' : Ren} {n : Nat} {t : Tr Value} {a : Act} (h : TR ρ n t a) (hl : Ren.le ρ ρ') : TR ρ' n t a :=
  ⟨h.size, h.small, fun i => VR.mono hl _ _ (h.val i), h.defers⟩

noncomputable def putT (t : Tr Value) (dst : Option Tmp) (v : Value) : Tr Value :=
  match dst with
  | some d => t.set d (some v)
  | none => t

noncomputable def dstOk (n : Nat) : Option Tmp → Bool
  | some d => Nat.blt d n
  | none => true

theorem TR.put {ρ : Ren} {n : Nat} {t : Tr Value} {a : Act} (h : TR ρ n t a) {dst : Option Tmp} (hd : dstOk n dst = true) {v v' : Value} (hv : VR ρ v v') :
    TR ρ n (putT t dst v) (a.put dst v') := by
  cases dst with
  | none => exact h
  | some d =>
    have hd' : d < n := by simpa [dstOk, Nat.blt_eq] using hd
    refine ⟨by simp [Act.put, h.size], h.small, fun i => ?_, h.defers⟩
    simp only [putT, Act.put]
    rw [Tr.get_set _ _ _ (Nat.lt_trans hd' h.small)]
    by_cases hi : i = d
    · subst hi
      have : i < a.tmps.size := by rw [h.size]; exact hd'
      simp [this, hv]
    · have := h.val i
      rw [if_neg hi]
      have e : (a.tmps.setIfInBounds d v').getD i undef = a.tmps.getD i undef := by
        simp only [Array.getD_eq_getD_getElem?]
        rw [Array.getElem?_setIfInBounds_ne (by omega)]
      rw [e]; exact this

noncomputable def evx (t : Tr Value) : Operand → Option Value
  | .tmp i => some ((t.get i).getD undef)
  | .const v => bif cst v then some v else none
  | .func f => some (.func (.func f) #[] #[])
  | .global _ => none

theorem evx_VR {ρ : Ren} {n : Nat} {t : Tr Value} {a : Act} (h : TR ρ n t a) {x : Operand} {v : Value} (e : evx t x = some v) : VR ρ v (a.eval x) := by
  cases x with
  | tmp i => simp only [evx, Option.some.injEq] at e; subst e; exact h.val i
  | const u =>
    simp only [evx] at e
    cases hc : cst u with
    | true => rw [hc] at e; simp at e; subst e; exact cst_VR hc
    | false => rw [hc] at e; simp at e
  | global g => simp [evx] at e
  | func f => simp only [evx, Option.some.injEq] at e; subst e; simp [Act.eval, VR, VRL]

/-! ### What an operation comes to -/
inductive ER where
  | val (v : Value)
  | mem (v : Value) (H : Heap)
  | skip (H : Heap)
  | call (f : Nat) (args : List Value)
  | tst (b : Bool) (x y : ER)
  | no

noncomputable def Next.Good (P : Program) (ρ : Ren) (w : World) (r : Result Next) : ER → Prop
  | .val v => ∃ v', VR ρ v v' ∧ r = .ok (.value v') w
  | .mem v H' => ∃ ρ' v' w', Ren.le ρ ρ' ∧ Fresh ρ ρ' w ∧ VR ρ' v v' ∧ r = .ok (.value v') w' ∧ Rep ρ' H' w' ∧ Keep ρ w w'
  | .skip H' => ∃ w', r = .ok .skip w' ∧ Rep ρ H' w' ∧ Keep ρ w w'
  | .call f args => ∃ args', VRL ρ args args' ∧ r = .ok (.enter f ⟨args'⟩) w
  | .tst b x y => (b = true → Next.Good P ρ w r x) ∧ (b = false → Next.Good P ρ w r y)
  | .no => True

/-! ### Numbers, texts -/
noncomputable def kbeq : IntKind → IntKind → Bool
  | .i8, .i8 | .i16, .i16 | .i32, .i32 | .i64, .i64 | .u8, .u8 | .u16, .u16 | .u32, .u32 | .u64, .u64 => true
  | _, _ => false
theorem kbeq_eq {a b : IntKind} (h : kbeq a b = true) : a = b := by cases a <;> cases b <;> first | rfl | (simp [kbeq] at h)

/-- 2 to the power of a shift's count -/
noncomputable def pw (b : Int) (k : IntKind) : Int := ((2 ^ (min b.toNat k.bits) : Nat) : Int)

noncomputable def evInt (op : BinOp) (k : IntKind) (a b : Int) : ER :=
  match op with
  | .add => .val (.int k (k.wrap (a + b)))
  | .sub => .val (.int k (k.wrap (a - b)))
  | .mul => .val (.int k (k.wrap (a * b)))
  | .quo => .tst (!(b == 0)) (.val (.int k (k.wrap (a.tdiv b)))) .no
  | .rem => .tst (!(b == 0)) (.val (.int k (a.tmod b))) .no
  | .and => .val (.int k (bits .and k a b))
  | .or => .val (.int k (bits .or k a b))
  | .xor => .val (.int k (bits .xor k a b))
  | .andNot => .val (.int k (bits .andNot k a b))
  | .eql => .val (.bool (a == b))
  | .neq => .val (.bool (a != b))
  | .lss => .val (.bool (decide (a < b)))
  | .leq => .val (.bool (decide (a ≤ b)))
  | .gtr => .val (.bool (decide (b < a)))
  | .geq => .val (.bool (decide (b ≤ a)))
  | _ => .no

/-! texts, in the words of lists (which the kernel runs well) -/
noncomputable def eqB : List UInt8 → List UInt8 → Bool
  | [], [] => true
  | a :: x, b :: y => bif Nat.beq a.toNat b.toNat then eqB x y else false
  | _, _ => false
noncomputable def strApp (a b : ByteArray) : ByteArray := ⟨⟨a.data.toList ++ b.data.toList⟩⟩
noncomputable def strCut (s : ByteArray) (l h : Nat) : ByteArray := ⟨⟨(s.data.toList.drop l).take (h - l)⟩⟩
noncomputable def strEq (a b : ByteArray) : Bool := eqB a.data.toList b.data.toList

theorem eqB_eq : ∀ (x y : List UInt8), eqB x y = (x == y)
  | [], [] => rfl
  | [], _ :: _ => rfl
  | _ :: _, [] => rfl
  | a :: x, b :: y => by
    rw [eqB, eqB_eq x y, List.cons_beq_cons]
    by_cases h : a = b
    · subst h; simp
    · have h1 : a.toNat ≠ b.toNat := fun e => h (UInt8.toNat_inj.1 e)
      have h2 : Nat.beq a.toNat b.toNat = false := by
        cases hb : Nat.beq a.toNat b.toNat with
        | false => rfl
        | true => exact absurd (Nat.eq_of_beq_eq_true hb) h1
      simp [h, h2]
theorem strEq_eq (a b : ByteArray) : strEq a b = (a.toList == b.toList) := by
  unfold strEq; rw [eqB_eq, ByteArray.toList_eq, ByteArray.toList_eq]
theorem strApp_eq (a b : ByteArray) : strApp a b = a ++ b := by
  apply ByteArray.ext
  simp [strApp]
theorem strCut_eq (s : ByteArray) (l h : Nat) : strCut s l h = s.extract l h := by
  apply ByteArray.ext
  apply Array.ext'
  simp [strCut, List.extract_eq_take_drop]

noncomputable def evStr (op : BinOp) (a b : ByteArray) : ER :=
  match op with
  | .add => .tst (Nat.ble (a.size + b.size) 9223372036854775807) (.val (.string (strApp a b))) .no
  | .eql => .val (.bool (strEq a b))
  | .neq => .val (.bool (!(strEq a b)))
  | .lss => .val (.bool (Op.bytesLess a.toList b.toList))
  | .leq => .val (.bool (Op.bytesLess a.toList b.toList || a.toList == b.toList))
  | .gtr => .val (.bool (!(Op.bytesLess a.toList b.toList || a.toList == b.toList)))
  | .geq => .val (.bool (!(Op.bytesLess a.toList b.toList)))
  | _ => .no

/-! ### Equality -/
noncomputable def partL (size : Nat) (agg : Bool) (c : List Value) (off : Nat) : Option Value :=
  bif agg then some (.agg ⟨(c.drop off).take size⟩) else c[off]?

noncomputable def isAggD : TypeDesc → Bool
  | .struct _ | .array _ _ => true
  | _ => false

noncomputable def eqFs (E : Env) (eq : TypeId → Value → Value → Option Bool) (xs ys : List Value) : List Field → Option Bool
  | [] => some true
  | f :: fs =>
    match E.ty.get f.type with
    | none => none
    | some i =>
      match partL i.size (isAggD i.desc) xs f.offset, partL i.size (isAggD i.desc) ys f.offset with
      | some a, some b =>
        match eq f.type a b, eqFs E eq xs ys fs with
        | some r, some s => bif f.name == "_" then none else some (r && s)
        | _, _ => none
      | _, _ => none

noncomputable def evEq (E : Env) : Nat → TypeId → Value → Value → Option Bool
  | 0, _, _, _ => none
  | d + 1, t, x, y =>
    match E.ty.get t with
    | none => none
    | some i =>
      match i.desc, x, y with
      | .bool, .bool a, .bool b => some (a == b)
      | .int _, .int k a, .int k' b => bif kbeq k k' then some (a == b) else none
      | .string, .string a, .string b => some (strEq a b)
      | .pointer _, .pointer none, .pointer b => some b.isNone
      | .pointer _, .pointer (some _), .pointer none => some false
      | .slice _, .slice none _ _, .slice b _ _ => some b.isNone
      | .slice _, .slice (some _) _ _, .slice none _ _ => some false
      | .struct fs, .agg ⟨xs⟩, .agg ⟨ys⟩ => bif i.eqok then eqFs E (evEq E d) xs ys fs.toList else none
      | _, _, _ => none

section
variable {E : Env} {P : Program} {ρ : Ren} {w : World}

theorem run_part {f : TypeId} {i : TI} (hE : E.Ok P) (ht : E.ty.get f = some i) {c c' : List Value} {off : Nat} {v : Value} (hc : VRL ρ c c')
    (h : partL i.size (isAggD i.desc) c off = some v) : ∃ v', VR ρ v v' ∧ (part f ⟨c'⟩ off).run P w = .ok v' w := by
  obtain ⟨hu, ⟨j, hj, hs, _, _⟩, _⟩ := hE.ty f i ht
  unfold partL at h
  cases ha : isAggD i.desc with
  | true =>
    rw [ha] at h; simp at h; subst h
    refine ⟨.agg ⟨(c'.drop off).take i.size⟩, by simp only [VR]; exact ⟨_, VRL.take _ (VRL.drop _ hc), rfl⟩, ?_⟩
    have hagg : (isAgg f).run P w = .ok true w := by
      unfold isAggD at ha
      unfold isAgg
      split at ha
      · rename_i e; simp [run_underlying hu, e]
      · rename_i e; simp [run_underlying hu, e]
      · simp at ha
    simp [part, hagg, sizeOf, typeInfo, hj, hs]
  | false =>
    rw [ha] at h; simp at h
    obtain ⟨v', h1, h2⟩ := VRL.get hc off v h
    refine ⟨v', h2, ?_⟩
    have hagg : (isAgg f).run P w = .ok false w := by
      unfold isAggD at ha
      unfold isAgg
      cases hd : i.desc <;> rw [hd] at ha hu <;> first | (simp at ha; done) | simp [run_underlying hu]
    simp [part, hagg, h1]

theorem run_eqFs (hE : E.Ok P) {d : Nat} {eq : TypeId → Value → Value → Option Bool}
    (ih : ∀ t x y x' y' r, eq t x y = some r → VR ρ x x' → VR ρ y y' → (Op.equalIn d t x' y').run P w = .ok r w) :
    ∀ (fs : List Field) (xs ys xs' ys' : List Value) (r : Bool), eqFs E eq xs ys fs = some r → VRL ρ xs xs' → VRL ρ ys ys' → (Op.eqFields d ⟨xs'⟩ ⟨ys'⟩ fs).run P w = .ok r w
  | [], _, _, _, _, r, h, _, _ => by simp only [eqFs, Option.some.injEq] at h; subst h; rfl
  | f :: fs, xs, ys, xs', ys', r, h, hx, hy => by
    simp only [eqFs] at h
    cases ht : E.ty.get f.type with
    | none => rw [ht] at h; simp at h
    | some i =>
      rw [ht] at h; simp only at h
      cases h1 : partL i.size (isAggD i.desc) xs f.offset with
      | none => rw [h1] at h; simp at h
      | some a =>
        cases h2 : partL i.size (isAggD i.desc) ys f.offset with
        | none => rw [h1, h2] at h; simp at h
        | some b =>
          rw [h1, h2] at h; simp only at h
          cases h3 : eq f.type a b with
          | none => rw [h3] at h; simp at h
          | some q =>
            cases h4 : eqFs E eq xs ys fs with
            | none => rw [h3, h4] at h; simp at h
            | some s =>
              rw [h3, h4] at h; simp only at h
              cases hn : (f.name == "_") with
              | true => rw [hn] at h; simp at h
              | false =>
                rw [hn] at h; simp at h; subst h
                obtain ⟨a', ha, ra⟩ := run_part (w := w) hE ht hx h1
                obtain ⟨b', hb, rb⟩ := run_part (w := w) hE ht hy h2
                have hn' : f.name ≠ "_" := by simpa using hn
                have h5 := run_eqFs hE ih fs xs ys xs' ys' s h4 hx hy
                simp only [Op.eqFields, if_pos hn', Sem.run_bind, ra, rb, Result.andThen_ok, ih _ _ _ _ _ _ h3 ha hb]
                cases q with
                | false => simp
                | true => simp [h5]

theorem run_evEq (hE : E.Ok P) : ∀ (d : Nat) (t : TypeId) (x y x' y' : Value) (r : Bool), evEq E d t x y = some r → VR ρ x x' → VR ρ y y' → ∀ e, (Op.equalIn (d + e) t x' y').run P w = .ok r w
  | 0, _, _, _, _, _, _, h, _, _, _ => by simp [evEq] at h
  | d + 1, t, x, y, x', y', r, h, hx, hy, e => by
    rw [show d + 1 + e = (d + e) + 1 by omega]
    simp only [evEq] at h
    cases ht : E.ty.get t with
    | none => rw [ht] at h; simp at h
    | some i =>
      rw [ht] at h; simp only at h
      obtain ⟨hu, _, hq⟩ := hE.ty t i ht
      split at h
      · rename_i a b hd; simp at h; simp only [VR] at hx hy; subst hx hy h; rw [hd] at hu; simp [Op.equalIn, run_underlying hu]
      · rename_i k0 k a k' b hd
        cases hk : kbeq k k' with
        | false => rw [hk] at h; simp at h
        | true =>
          rw [hk] at h; simp at h; obtain rfl := kbeq_eq hk
          simp only [VR] at hx hy; subst hx hy h; rw [hd] at hu; simp [Op.equalIn, run_underlying hu]
      · rename_i a b hd; simp at h; simp only [VR] at hx hy; subst hx hy; rw [hd] at hu; rw [run_equalIn_string w _ _ _ _ hu, ← strEq_eq]; simp [h]
      · rename_i p b hd; simp at h; simp only [VR] at hx; subst hx; rw [hd] at hu
        cases b with
        | none => simp only [VR] at hy; subst hy; subst h; simp [Op.equalIn, run_underlying hu]
        | some z => simp only [VR] at hy; obtain ⟨q, _, rfl⟩ := hy; subst h; simp [Op.equalIn, run_underlying hu]
      · rename_i p a hd; simp at h; simp only [VR] at hx hy; obtain ⟨q, _, rfl⟩ := hx; subst hy; subst h; rw [hd] at hu; simp [Op.equalIn, run_underlying hu]
      · rename_i p n c b m c2 hd; simp at h; simp only [VR] at hx; subst hx; rw [hd] at hu
        cases b with
        | none => simp only [VR] at hy; subst hy; subst h; simp [Op.equalIn, run_underlying hu]
        | some z => obtain ⟨a', c', rfl⟩ := VR_slice_some hy; subst h; simp [Op.equalIn, run_underlying hu]
      · rename_i p a n c m c2 hd; simp at h; obtain ⟨a', c', rfl⟩ := VR_slice_some hx; simp only [VR] at hy; subst hy; rw [hd] at hu; subst h; simp [Op.equalIn, run_underlying hu]
      · rename_i fs xs ys hd
        cases hk : i.eqok with
        | false => rw [hk] at h; simp at h
        | true =>
          rw [hk] at h; simp only [cond_true] at h
          simp only [VR] at hx hy
          obtain ⟨xs', h1, rfl⟩ := hx
          obtain ⟨ys', h2, rfl⟩ := hy
          have hf : P.fieldsOf t = fs := by simp [Program.fieldsOf, hu, hd]
          rw [run_equalIn_struct w _ t _ _ (by rw [hf, hu, hd]) (hq hk).1, hf]
          exact run_eqFs hE (fun t x y x' y' r hr hx hy => run_evEq hE d t x y x' y' r hr hx hy e) _ _ _ _ _ _ h h1 h2
      · simp at h
end
end Go.Ly
