/- Part C: operations on numbers, texts and memory, evaluated, and that the model does the same. -/
import Derived.Test.YtofimkcfenemlaaLyB
import Derived.Laws.Slices
namespace Go.Ly
set_option linter.unusedSimpArgs false
set_option linter.unusedVariables false
section
variable {E : Env} {P : Program} {ρ : Ren} {w : World} {H : Heap}

/-! ### Binary operations -/
noncomputable def isCmpOp : BinOp → Bool
  | .eql | .neq => true
  | _ => false

noncomputable def evBin (E : Env) (op : BinOp) (t : TypeId) (x y : Value) : ER :=
  match x, y with
  | .int k a, .int k' b =>
    match op with
    | .shl => .tst (decide (0 ≤ b)) (.val (.int k (k.wrap (a * pw b k)))) .no
    | .shr => .tst (decide (0 ≤ b)) (.val (.int k (a.fdiv (pw b k)))) .no
    | _ => bif kbeq k k' then evInt op k a b else .no
  | .string a, .string b => evStr op a b
  | .bool a, .bool b =>
    match op with
    | .eql => match evEq E 1 t (.bool a) (.bool b) with | some r => .val (.bool r) | none => .no
    | .neq => match evEq E 1 t (.bool a) (.bool b) with | some r => .val (.bool (!r)) | none => .no
    | _ => .no
  | .pointer a, .pointer b =>
    match op with
    | .eql => match evEq E 1 t (.pointer a) (.pointer b) with | some r => .val (.bool r) | none => .no
    | .neq => match evEq E 1 t (.pointer a) (.pointer b) with | some r => .val (.bool (!r)) | none => .no
    | _ => .no
  | .slice a n c, .slice b m d =>
    match op with
    | .eql => match evEq E 1 t (.slice a n c) (.slice b m d) with | some r => .val (.bool r) | none => .no
    | .neq => match evEq E 1 t (.slice a n c) (.slice b m d) with | some r => .val (.bool (!r)) | none => .no
    | _ => .no
  | .agg xs, .agg ys =>
    match E.ty.get t with
    | none => .no
    | some i => bif i.eqok then
      (match op with
      | .eql => match evEq E 5 t (.agg xs) (.agg ys) with | some r => .val (.bool r) | none => .no
      | .neq => match evEq E 5 t (.agg xs) (.agg ys) with | some r => .val (.bool (!r)) | none => .no
      | _ => .no) else .no
  | _, _ => .no

theorem pw_eq (b : Int) (k : IntKind) : (2 : Int) ^ (min b.toNat k.bits) = pw b k := by unfold pw; simp

/-- a run that ends in a value, as an operation's -/
noncomputable def valued (r : Result Value) : Result Next := r.andThen fun v w => .ok (.value v) w

theorem good_val {v v' : Value} (h : VR ρ v v') : Next.Good P ρ w (.ok (.value v') w) (.val v) := ⟨v', h, rfl⟩

theorem VR_int {k : IntKind} {n : Int} : VR ρ (.int k n) (.int k n) := by simp [VR]
theorem VR_bool {b : Bool} : VR ρ (.bool b) (.bool b) := by simp [VR]
theorem VR_string {s : ByteArray} : VR ρ (.string s) (.string s) := by simp [VR]

theorem evInt_good (op : BinOp) (k : IntKind) (a b : Int) (t : TypeId) (_hs : op ≠ .shl ∧ op ≠ .shr) :
    Next.Good P ρ w (valued ((binOp op t (.int k a) (.int k b)).run P w)) (evInt op k a b) := by
  cases op <;> simp only [evInt, Next.Good] <;> first
    | trivial
    | (refine ⟨_, VR_int, ?_⟩; simp [valued, binOp, Op.intArith]; done)
    | (refine ⟨_, VR_int, ?_⟩; simp [valued, binOp, intBits_and, intBits_or, intBits_xor, intBits_andNot]; done)
    | (refine ⟨_, VR_bool, ?_⟩; simp [valued, binOp, Op.intCmp]; done)
    | (refine ⟨fun h => ?_, fun _ => trivial⟩; have h' : b ≠ 0 := by simpa using h
       refine ⟨_, VR_int, ?_⟩; simp [valued, binOp, Op.intDiv, h']; done)

theorem evShift_good (op : BinOp) (k k' : IntKind) (a b : Int) (t : TypeId) (hs : op = .shl ∨ op = .shr) :
    Next.Good P ρ w (valued ((binOp op t (.int k a) (.int k' b)).run P w)) (evBin E op t (.int k a) (.int k' b)) := by
  rcases hs with rfl | rfl
  all_goals
    simp only [evBin, Next.Good]
    refine ⟨fun h => ?_, fun _ => trivial⟩
    have h' : ¬ b < 0 := by have := of_decide_eq_true h; omega
    exact ⟨_, VR_int, by simp [valued, binOp, Op.shift, h', pw_eq]⟩

theorem evStr_good (op : BinOp) (a b : ByteArray) (t : TypeId) :
    Next.Good P ρ w (valued ((binOp op t (.string a) (.string b)).run P w)) (evStr op a b) := by
  cases op <;> simp only [evStr, Next.Good] <;> first
    | trivial
    | (refine ⟨_, VR_bool, ?_⟩; simp [valued, binOp, Op.stringOp, strEq_eq]; done)
    | (refine ⟨fun h => ?_, fun _ => trivial⟩
       have h' : ¬ ((a.size + b.size : Nat) : Int) > IntKind.i64.max := by
         have := Nat.le_of_ble_eq_true h
         have e : IntKind.i64.max = 9223372036854775807 := by decide
         rw [e]; omega
       refine ⟨_, VR_string, ?_⟩
       rw [strApp_eq]
       simp only [valued, binOp, Op.stringOp, if_neg h']
       rfl)

theorem run_eq_of {t : TypeId} {x y : Value} {r : Bool} (h : (Op.equalIn 10000 t x y).run P w = .ok r w) : (Op.equal t x y).run P w = .ok r w := h

theorem evBin_good (hE : E.Ok P) (op : BinOp) (t : TypeId) (x y x' y' : Value) (hx : VR ρ x x') (hy : VR ρ y y') (ox oy : Operand) :
    Next.Good P ρ w (valued ((do eqGuard op t ox oy x' y'; binOp op t x' y').run P w)) (evBin E op t x y) := by
  have heq : ∀ (d : Nat) (r : Bool), d ≤ 10000 → evEq E d t x y = some r → (Op.equal t x' y').run P w = .ok r w := by
    intro d r hd h
    have := run_evEq (w := w) hE d t x y x' y' r h hx hy (10000 - d)
    rw [show d + (10000 - d) = 10000 by omega] at this
    exact run_eq_of this
  unfold evBin
  split
  · rename_i k a k' b
    simp only [VR] at hx hy; subst hx hy
    have hg : ∀ op, (eqGuard op t ox oy (.int k a) (.int k' b)).run P w = .ok () w := by intro op; cases op <;> rfl
    have hr : ∀ op, (do eqGuard op t ox oy (.int k a) (.int k' b); binOp op t (.int k a) (.int k' b)).run P w = (binOp op t (.int k a) (.int k' b)).run P w := by
      intro op; simp [Sem.run_bind, hg op]
    split
    · rw [hr]; exact evShift_good (E := E) _ k k' a b t (.inl rfl)
    · rw [hr]; exact evShift_good (E := E) _ k k' a b t (.inr rfl)
    · rename_i h1 h2
      rw [hr]
      cases hk : kbeq k k' with
      | false => simp [Next.Good]
      | true => obtain rfl := kbeq_eq hk; exact evInt_good op k a b t ⟨h1, h2⟩
  · rename_i a b
    simp only [VR] at hx hy; subst hx hy
    have hr : (do eqGuard op t ox oy (.string a) (.string b); binOp op t (.string a) (.string b)).run P w = (binOp op t (.string a) (.string b)).run P w := by
      have : (eqGuard op t ox oy (.string a) (.string b)).run P w = .ok () w := by cases op <;> rfl
      simp [Sem.run_bind, this]
    rw [hr]; exact evStr_good op a b t
  · rename_i a b
    simp only [VR] at hx hy; subst hx hy
    split
    · cases h : evEq E 1 t (.bool a) (.bool b) with
      | none => simp [Next.Good]
      | some r => exact ⟨.bool r, by simp [VR], by simp [valued, eqGuard, binOp, heq 1 r (by omega) h]⟩
    · cases h : evEq E 1 t (.bool a) (.bool b) with
      | none => simp [Next.Good]
      | some r => exact ⟨.bool (!r), by simp [VR], by simp [valued, eqGuard, binOp, heq 1 r (by omega) h]⟩
    · simp [Next.Good]
  · rename_i a b
    have hx' : ∃ p, x' = .pointer p := by
      cases a with
      | none => simp only [VR] at hx; exact ⟨_, hx⟩
      | some z => simp only [VR] at hx; obtain ⟨q, _, rfl⟩ := hx; exact ⟨_, rfl⟩
    have hy' : ∃ p, y' = .pointer p := by
      cases b with
      | none => simp only [VR] at hy; exact ⟨_, hy⟩
      | some z => simp only [VR] at hy; obtain ⟨q, _, rfl⟩ := hy; exact ⟨_, rfl⟩
    obtain ⟨p, rfl⟩ := hx'
    obtain ⟨q, rfl⟩ := hy'
    split
    · cases h : evEq E 1 t (.pointer a) (.pointer b) with
      | none => simp [Next.Good]
      | some r => exact ⟨.bool r, by simp [VR], by simp [valued, eqGuard, binOp, heq 1 r (by omega) h]⟩
    · cases h : evEq E 1 t (.pointer a) (.pointer b) with
      | none => simp [Next.Good]
      | some r => exact ⟨.bool (!r), by simp [VR], by simp [valued, eqGuard, binOp, heq 1 r (by omega) h]⟩
    · simp [Next.Good]
  · rename_i a n c b m d
    have hx' : ∃ p n c, x' = .slice p n c := by obtain ⟨a', c', rfl⟩ := VR_slice_shape hx; exact ⟨_, _, _, rfl⟩
    have hy' : ∃ p n c, y' = .slice p n c := by obtain ⟨a', c', rfl⟩ := VR_slice_shape hy; exact ⟨_, _, _, rfl⟩
    obtain ⟨p, n1, c1, rfl⟩ := hx'
    obtain ⟨q, n2, c2, rfl⟩ := hy'
    split
    · cases h : evEq E 1 t (.slice a n c) (.slice b m d) with
      | none => simp [Next.Good]
      | some r => exact ⟨.bool r, by simp [VR], by simp [valued, eqGuard, binOp, heq 1 r (by omega) h]⟩
    · cases h : evEq E 1 t (.slice a n c) (.slice b m d) with
      | none => simp [Next.Good]
      | some r => exact ⟨.bool (!r), by simp [VR], by simp [valued, eqGuard, binOp, heq 1 r (by omega) h]⟩
    · simp [Next.Good]
  · rename_i xs ys
    cases ht : E.ty.get t with
    | none => simp [Next.Good]
    | some i =>
      simp only
      cases hk : i.eqok with
      | false => simp [Next.Good]
      | true =>
        obtain ⟨_, _, hq⟩ := hE.ty t i ht
        have hx' : ∃ p, x' = .agg p := by
          obtain ⟨l⟩ := xs; simp only [VR] at hx; obtain ⟨p, _, rfl⟩ := hx; exact ⟨_, rfl⟩
        have hy' : ∃ p, y' = .agg p := by
          obtain ⟨l⟩ := ys; simp only [VR] at hy; obtain ⟨p, _, rfl⟩ := hy; exact ⟨_, rfl⟩
        obtain ⟨p, rfl⟩ := hx'
        obtain ⟨q, rfl⟩ := hy'
        have hg := run_eqGuard_agg (P := P) w op t ox oy p q (hq hk).2
        simp only [cond_true]
        split
        · cases h : evEq E 5 t (.agg xs) (.agg ys) with
          | none => simp [Next.Good]
          | some r => exact ⟨.bool r, by simp [VR], by simp only [valued, Sem.run_bind, hg, Result.andThen_ok]; simp [binOp, heq 5 r (by omega) h]⟩
        · cases h : evEq E 5 t (.agg xs) (.agg ys) with
          | none => simp [Next.Good]
          | some r => exact ⟨.bool (!r), by simp [VR], by simp only [valued, Sem.run_bind, hg, Result.andThen_ok]; simp [binOp, heq 5 r (by omega) h]⟩
        · simp [Next.Good]
  · simp [Next.Good]
end
end Go.Ly
