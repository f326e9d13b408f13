/- A small separation logic with an evaluator: values, addresses and heaps with local block numbers, and what they stand for in a world. Part A: trees, values, heaps. -/
import Derived.WalkKit
import Derived.ProofKit
namespace Go.Ly

/-! ### Trees that are looked up by a number -/
inductive Tr (α : Type) where
  | nil
  | node (v : Option α) (l r : Tr α)

/-- (typed by hand in the recursors' own words: the kernel runs them) -/
noncomputable def Tr.get {α : Type} (t : Tr α) : Nat → Option α :=
  Tr.rec (motive := fun _ => Nat → Option α) (fun _ => none)
    (fun v _ _ gl gr n => Bool.rec (Bool.rec (gr (Nat.sub (Nat.div n 2) 1)) (gl (Nat.div n 2)) (Nat.beq (Nat.mod n 2) 1)) v (Nat.beq n 0)) t

noncomputable def Tr.put {α : Type} (f : Nat) : Tr α → Nat → Option α → Tr α :=
  Nat.rec (motive := fun _ => Tr α → Nat → Option α → Tr α) (fun t _ _ => t)
    (fun _ ih t n x => Tr.casesOn (motive := fun _ => Tr α) t
      (Bool.rec (Bool.rec (.node none .nil (ih .nil (Nat.sub (Nat.div n 2) 1) x)) (.node none (ih .nil (Nat.div n 2) x) .nil) (Nat.beq (Nat.mod n 2) 1)) (.node x .nil .nil) (Nat.beq n 0))
      (fun v l r => Bool.rec (Bool.rec (.node v l (ih r (Nat.sub (Nat.div n 2) 1) x)) (.node v (ih l (Nat.div n 2) x) r) (Nat.beq (Nat.mod n 2) 1)) (.node x l r) (Nat.beq n 0))) f

theorem Tr.get_nil {α : Type} (n : Nat) : (Tr.nil : Tr α).get n = none := rfl

theorem Tr.get_node {α : Type} (v : Option α) (l r : Tr α) (n : Nat) :
    (Tr.node v l r).get n = if n = 0 then v else if n % 2 = 1 then l.get (n / 2) else r.get (n / 2 - 1) := by
  have e0 : (Tr.node v l r).get n = bif Nat.beq n 0 then v else bif Nat.beq (n % 2) 1 then l.get (n / 2) else r.get (n / 2 - 1) := by
    show (Bool.rec (motive := fun _ => Option α) (Bool.rec (motive := fun _ => Option α) (r.get (n / 2 - 1)) (l.get (n / 2)) (Nat.beq (n % 2) 1)) v (Nat.beq n 0)) = _
    cases Nat.beq n 0 <;> cases Nat.beq (n % 2) 1 <;> rfl
  rw [e0]
  by_cases h : n = 0
  · simp [h]
  · have h1 : Nat.beq n 0 = false := by rcases n with _ | n; exact absurd rfl h; rfl
    by_cases h2 : n % 2 = 1
    · have : Nat.beq (n % 2) 1 = true := by rw [h2]; rfl
      simp [h, h1, h2]
    · have : Nat.beq (n % 2) 1 = false := by
        have : n % 2 = 0 := by omega
        rw [this]; rfl
      simp [h, h1, h2, this]

theorem Tr.put_nil {α : Type} (f n : Nat) (x : Option α) :
    Tr.put (f + 1) .nil n x = if n = 0 then .node x .nil .nil else if n % 2 = 1 then .node none (Tr.put f .nil (n / 2) x) .nil else .node none .nil (Tr.put f .nil (n / 2 - 1) x) := by
  have e0 : Tr.put (f + 1) .nil n x = bif Nat.beq n 0 then .node x .nil .nil else bif Nat.beq (n % 2) 1 then .node none (Tr.put f .nil (n / 2) x) .nil else .node none .nil (Tr.put f .nil (n / 2 - 1) x) := by
    show (Bool.rec (motive := fun _ => Tr α) (Bool.rec (motive := fun _ => Tr α) (.node none .nil (Tr.put f .nil (n / 2 - 1) x)) (.node none (Tr.put f .nil (n / 2) x) .nil) (Nat.beq (n % 2) 1)) (.node x .nil .nil) (Nat.beq n 0)) = _
    cases Nat.beq n 0 <;> cases Nat.beq (n % 2) 1 <;> rfl
  rw [e0]
  by_cases h : n = 0
  · simp [h]
  · have h1 : Nat.beq n 0 = false := by rcases n with _ | n; exact absurd rfl h; rfl
    by_cases h2 : n % 2 = 1
    · have : Nat.beq (n % 2) 1 = true := by rw [h2]; rfl
      simp [h, h1, h2]
    · have : Nat.beq (n % 2) 1 = false := by
        have : n % 2 = 0 := by omega
        rw [this]; rfl
      simp [h, h1, h2, this]

theorem Tr.put_node {α : Type} (f n : Nat) (v x : Option α) (l r : Tr α) :
    Tr.put (f + 1) (.node v l r) n x = if n = 0 then .node x l r else if n % 2 = 1 then .node v (Tr.put f l (n / 2) x) r else .node v l (Tr.put f r (n / 2 - 1) x) := by
  have e0 : Tr.put (f + 1) (.node v l r) n x = bif Nat.beq n 0 then .node x l r else bif Nat.beq (n % 2) 1 then .node v (Tr.put f l (n / 2) x) r else .node v l (Tr.put f r (n / 2 - 1) x) := by
    show (Bool.rec (motive := fun _ => Tr α) (Bool.rec (motive := fun _ => Tr α) (.node v l (Tr.put f r (n / 2 - 1) x)) (.node v (Tr.put f l (n / 2) x) r) (Nat.beq (n % 2) 1)) (.node x l r) (Nat.beq n 0)) = _
    cases Nat.beq n 0 <;> cases Nat.beq (n % 2) 1 <;> rfl
  rw [e0]
  by_cases h : n = 0
  · simp [h]
  · have h1 : Nat.beq n 0 = false := by rcases n with _ | n; exact absurd rfl h; rfl
    by_cases h2 : n % 2 = 1
    · have : Nat.beq (n % 2) 1 = true := by rw [h2]; rfl
      simp [h, h1, h2]
    · have : Nat.beq (n % 2) 1 = false := by
        have : n % 2 = 0 := by omega
        rw [this]; rfl
      simp [h, h1, h2, this]

theorem Tr.get_put {α : Type} (f : Nat) : ∀ (t : Tr α) (n : Nat) (x : Option α), n + 1 < 2 ^ f → ∀ m, (Tr.put f t n x).get m = if m = n then x else t.get m := by
  induction f with
  | zero => intro t n x h; simp at h
  | succ f ih =>
    intro t n x h m
    have hp : 2 ^ (f + 1) = 2 * 2 ^ f := by rw [Nat.pow_succ]; omega
    cases t with
    | nil =>
      rw [Tr.put_nil]
      by_cases hn : n = 0
      · subst hn; rw [if_pos rfl, Tr.get_node]
        by_cases hm : m = 0 <;> simp [hm, Tr.get_nil]
      · rw [if_neg hn]
        by_cases h2 : n % 2 = 1
        · rw [if_pos h2, Tr.get_node]
          have := ih .nil (n / 2) x (by omega)
          by_cases hm : m = 0
          · subst hm; rw [if_pos rfl, if_neg (by omega)]; rfl
          · rw [if_neg hm]
            by_cases hm2 : m % 2 = 1
            · rw [if_pos hm2, this]
              by_cases he : m = n
              · subst he; simp
              · rw [if_neg (by omega), if_neg he]; rfl
            · rw [if_neg hm2, if_neg (by omega)]; rfl
        · rw [if_neg h2, Tr.get_node]
          have := ih .nil (n / 2 - 1) x (by omega)
          by_cases hm : m = 0
          · subst hm; rw [if_pos rfl, if_neg (by omega)]; rfl
          · rw [if_neg hm]
            by_cases hm2 : m % 2 = 1
            · rw [if_pos hm2, if_neg (by omega)]; rfl
            · rw [if_neg hm2, this]
              by_cases he : m = n
              · subst he; simp
              · rw [if_neg (by omega), if_neg he]; rfl
    | node v l r =>
      rw [Tr.put_node]
      by_cases hn : n = 0
      · subst hn; rw [if_pos rfl, Tr.get_node, Tr.get_node]
        by_cases hm : m = 0 <;> simp [hm]
      · rw [if_neg hn]
        by_cases h2 : n % 2 = 1
        · rw [if_pos h2, Tr.get_node, Tr.get_node]
          have := ih l (n / 2) x (by omega)
          by_cases hm : m = 0
          · subst hm; rw [if_pos rfl, if_pos rfl, if_neg (by omega)]
          · rw [if_neg hm, if_neg hm]
            by_cases hm2 : m % 2 = 1
            · rw [if_pos hm2, if_pos hm2, this]
              by_cases he : m = n
              · subst he; simp
              · rw [if_neg (by omega), if_neg he]
            · rw [if_neg hm2, if_neg hm2, if_neg (by omega)]
        · rw [if_neg h2, Tr.get_node, Tr.get_node]
          have := ih r (n / 2 - 1) x (by omega)
          by_cases hm : m = 0
          · subst hm; rw [if_pos rfl, if_pos rfl, if_neg (by omega)]
          · rw [if_neg hm, if_neg hm]
            by_cases hm2 : m % 2 = 1
            · rw [if_pos hm2, if_pos hm2, if_neg (by omega)]
            · rw [if_neg hm2, if_neg hm2, this]
              by_cases he : m = n
              · subst he; simp
              · rw [if_neg (by omega), if_neg he]

attribute [irreducible] Tr.get Tr.put

/-- what is put: room for a thousand million -/
noncomputable def Tr.set {α : Type} (t : Tr α) (n : Nat) (x : Option α) : Tr α := Tr.put 31 t n x
def big : Nat := 2147483000
theorem Tr.get_set {α : Type} (t : Tr α) (n : Nat) (x : Option α) (h : n < big) (m : Nat) : (t.set n x).get m = if m = n then x else t.get m :=
  Tr.get_put 31 t n x (by unfold big at h; omega) m

/-! ### Values: what a local one stands for -/
/-- a capacity that is not known -/
def capU : Nat := 18446744073709551616

/-- a renaming: the block that a local number stands for; of a row that may grow: how many elements it has room for; whether it is only read; where its first cell is; how many cells an element has -/
structure Ren where
  b : Nat → Option Nat
  cap : Nat → Nat
  ro : Nat → Bool
  off : Nat → Nat
  wd : Nat → Nat
instance : CoeFun Ren (fun _ => Nat → Option Nat) := ⟨Ren.b⟩

/-- a local place in its block: by cells, or by an element and a cell in it -/
def Ren.at (ρ : Ren) (a : Addr) : Nat := ρ.off a.block + (match a.spot with | none => a.off | some i => i * ρ.wd a.block + a.off)

mutual
def VR (ρ : Ren) : Value → Value → Prop
  | .bool b, v => v = .bool b
  | .int k n, v => v = .int k n
  | .string s, v => v = .string s
  | .pointer none, v => v = .pointer none
  | .pointer (some a), v => ∃ b, ρ a.block = some b ∧ v = .pointer (some ⟨b, ρ.at a, none⟩)
  | .slice none n c, v => v = .slice none n c
  | .slice (some a) n c, v => ∃ a' c', v = .slice (some a') n c' ∧ n ≤ c' ∧ (c ≠ capU → c' = c) ∧
      (n ≠ 0 → ∃ b, ρ a.block = some b ∧ a' = ⟨b, ρ.at a, none⟩ ∧ (c = capU → ρ.at a = 0 → c' ≤ ρ.cap a.block))
  | .map none, v => v = .map none
  | .map (some r), v => ∃ b, ρ r = some b ∧ v = .map (some b)
  | .func fn ⟨xs⟩ ⟨ys⟩, v => ∃ xs' ys', VRL ρ xs xs' ∧ VRL ρ ys ys' ∧ v = .func fn ⟨xs'⟩ ⟨ys'⟩
  | .nilFunc, v => v = .nilFunc
  | .iface t x, v => ∃ x', VR ρ x x' ∧ v = .iface t x'
  | .nilIface, v => v = .nilIface
  | .agg ⟨xs⟩, v => ∃ xs', VRL ρ xs xs' ∧ v = .agg ⟨xs'⟩
  | .tuple ⟨xs⟩, v => ∃ xs', VRL ρ xs xs' ∧ v = .tuple ⟨xs'⟩
  | .chan _, _ => True
  | _, _ => False
def VRL (ρ : Ren) : List Value → List Value → Prop
  | [], l => l = []
  | v :: r, l => ∃ v' r', VR ρ v v' ∧ VRL ρ r r' ∧ l = v' :: r'
end

/-- a value of which nothing is known -/
def anyV : Value := .chan none
theorem VR_any {ρ : Ren} (v : Value) : VR ρ anyV v := by simp [anyV, VR]

/-- at a number both say the same -/
structure Ren.same (ρ ρ' : Ren) (i : Nat) : Prop where
  b : ρ' i = ρ i
  cap : ρ'.cap i = ρ.cap i
  ro : ρ'.ro i = ρ.ro i
  off : ρ'.off i = ρ.off i
  wd : ρ'.wd i = ρ.wd i
def Ren.le (ρ ρ' : Ren) : Prop := ∀ i b, ρ i = some b → Ren.same ρ ρ' i
theorem Ren.le_refl (ρ : Ren) : Ren.le ρ ρ := fun _ _ _ => ⟨rfl, rfl, rfl, rfl, rfl⟩
theorem Ren.le_trans {a b c : Ren} (h : Ren.le a b) (k : Ren.le b c) : Ren.le a c := fun i x e => by
  have h1 := h i x e
  have h2 := k i x (h1.b.trans e)
  exact ⟨h2.b.trans h1.b, h2.cap.trans h1.cap, h2.ro.trans h1.ro, h2.off.trans h1.off, h2.wd.trans h1.wd⟩
theorem Ren.same.at {ρ ρ' : Ren} {a : Addr} (h : Ren.same ρ ρ' a.block) : ρ'.at a = ρ.at a := by
  unfold Ren.at; rw [h.off, h.wd]
/-- what values ask of a renaming -/
structure Ren.sameV (ρ ρ' : Ren) (i : Nat) : Prop where
  b : ρ' i = ρ i
  cap : ρ'.cap i = ρ.cap i
  off : ρ'.off i = ρ.off i
  wd : ρ'.wd i = ρ.wd i
theorem Ren.sameV.at {ρ ρ' : Ren} {a : Addr} (h : Ren.sameV ρ ρ' a.block) : ρ'.at a = ρ.at a := by
  unfold Ren.at; rw [h.off, h.wd]
def Ren.leV (ρ ρ' : Ren) : Prop := ∀ i b, ρ i = some b → Ren.sameV ρ ρ' i
theorem Ren.le.v {ρ ρ' : Ren} (h : Ren.le ρ ρ') : Ren.leV ρ ρ' := fun i b e => ⟨(h i b e).b, (h i b e).cap, (h i b e).off, (h i b e).wd⟩

mutual
theorem VR.monoV {ρ ρ' : Ren} (h : Ren.leV ρ ρ') : ∀ (v v' : Value), VR ρ v v' → VR ρ' v v'
  | .bool _, _, e => e
  | .int _ _, _, e => e
  | .string _, _, e => e
  | .pointer none, _, e => e
  | .pointer (some a), _, e => by
      simp only [VR] at e ⊢
      obtain ⟨b, hb, rfl⟩ := e
      have hs := h _ _ hb
      exact ⟨b, hs.b.trans hb, by rw [hs.at]⟩
  | .slice none _ _, _, e => e
  | .slice (some a) n c, _, e => by
      simp only [VR] at e ⊢
      obtain ⟨a', c', e1, e2, e3, e4⟩ := e
      refine ⟨a', c', e1, e2, e3, fun hn => ?_⟩
      obtain ⟨b, hb, e5, e6⟩ := e4 hn
      have hs := h _ _ hb
      exact ⟨b, hs.b.trans hb, by rw [hs.at]; exact e5, by rw [hs.at, hs.cap]; exact e6⟩
  | .map none, _, e => e
  | .map (some r), _, e => by
      simp only [VR] at e ⊢
      obtain ⟨b, hb, rfl⟩ := e
      exact ⟨b, (h _ _ hb).b.trans hb, rfl⟩
  | .func fn ⟨xs⟩ ⟨ys⟩, _, e => by
      simp only [VR] at e ⊢
      obtain ⟨xs', ys', h1, h2, rfl⟩ := e
      exact ⟨xs', ys', VRL.monoV h xs xs' h1, VRL.monoV h ys ys' h2, rfl⟩
  | .nilFunc, _, e => e
  | .iface t x, _, e => by
      simp only [VR] at e ⊢
      obtain ⟨x', h1, rfl⟩ := e
      exact ⟨x', VR.monoV h x x' h1, rfl⟩
  | .nilIface, _, e => e
  | .agg ⟨xs⟩, _, e => by
      simp only [VR] at e ⊢
      obtain ⟨xs', h1, rfl⟩ := e
      exact ⟨xs', VRL.monoV h xs xs' h1, rfl⟩
  | .tuple ⟨xs⟩, _, e => by
      simp only [VR] at e ⊢
      obtain ⟨xs', h1, rfl⟩ := e
      exact ⟨xs', VRL.monoV h xs xs' h1, rfl⟩
  | .float _ _, _, e => e
  | .complex _ _ _, _, e => e
  | .chan _, _, e => e
theorem VRL.monoV {ρ ρ' : Ren} (h : Ren.leV ρ ρ') : ∀ (l l' : List Value), VRL ρ l l' → VRL ρ' l l'
  | [], _, e => e
  | v :: r, _, e => by
      simp only [VRL] at e ⊢
      obtain ⟨v', r', h1, h2, rfl⟩ := e
      exact ⟨v', r', VR.monoV h v v' h1, VRL.monoV h r r' h2, rfl⟩
end

theorem VR.mono {ρ ρ' : Ren} (h : Ren.le ρ ρ') (v v' : Value) (hv : VR ρ v v') : VR ρ' v v' := VR.monoV h.v v v' hv
theorem VRL.mono {ρ ρ' : Ren} (h : Ren.le ρ ρ') (l l' : List Value) (hv : VRL ρ l l') : VRL ρ' l l' := VRL.monoV h.v l l' hv

theorem VRL.length {ρ : Ren} : ∀ {l l' : List Value}, VRL ρ l l' → l'.length = l.length
  | [], _, e => by simp only [VRL] at e; subst e; rfl
  | v :: r, _, e => by
      simp only [VRL] at e
      obtain ⟨v', r', _, h2, rfl⟩ := e
      simp [VRL.length h2]

theorem VRL.get {ρ : Ren} : ∀ {l l' : List Value}, VRL ρ l l' → ∀ (i : Nat) (v : Value), l[i]? = some v → ∃ v', l'[i]? = some v' ∧ VR ρ v v'
  | [], _, _, i, v, h => by simp at h
  | x :: r, _, e, i, v, h => by
      simp only [VRL] at e
      obtain ⟨v', r', h1, h2, rfl⟩ := e
      cases i with
      | zero => simp at h; subst h; exact ⟨v', by simp, h1⟩
      | succ i => simp at h ⊢; exact VRL.get h2 i v h

theorem VRL.set {ρ : Ren} : ∀ {l l' : List Value}, VRL ρ l l' → ∀ (i : Nat) (v v' : Value), VR ρ v v' → VRL ρ (l.set i v) (l'.set i v')
  | [], _, e, i, v, v', h => by simp only [VRL] at e; subst e; simp [VRL]
  | x :: r, _, e, i, v, v', h => by
      simp only [VRL] at e
      obtain ⟨y, r', h1, h2, rfl⟩ := e
      cases i with
      | zero => simp only [List.set_cons_zero, VRL]; exact ⟨v', r', h, h2, rfl⟩
      | succ i => simp only [List.set_cons_succ, VRL]; exact ⟨y, _, h1, VRL.set h2 i v v' h, rfl⟩

theorem VRL.append {ρ : Ren} : ∀ {l l' m m' : List Value}, VRL ρ l l' → VRL ρ m m' → VRL ρ (l ++ m) (l' ++ m')
  | [], _, _, _, e, h => by simp only [VRL] at e; subst e; simpa using h
  | x :: r, _, _, _, e, h => by
      simp only [VRL] at e
      obtain ⟨y, r', h1, h2, rfl⟩ := e
      simp only [List.cons_append, VRL]
      exact ⟨y, _, h1, VRL.append h2 h, rfl⟩

theorem VRL.take {ρ : Ren} : ∀ {l l' : List Value} (n : Nat), VRL ρ l l' → VRL ρ (l.take n) (l'.take n)
  | [], _, n, e => by simp only [VRL] at e; subst e; simp [VRL]
  | x :: r, _, 0, e => by simp [VRL]
  | x :: r, _, n + 1, e => by
      simp only [VRL] at e
      obtain ⟨y, r', h1, h2, rfl⟩ := e
      simp only [List.take_succ_cons, VRL]
      exact ⟨y, _, h1, VRL.take n h2, rfl⟩

theorem VRL.drop {ρ : Ren} : ∀ {l l' : List Value} (n : Nat), VRL ρ l l' → VRL ρ (l.drop n) (l'.drop n)
  | [], _, n, e => by simp only [VRL] at e; subst e; simp [VRL]
  | x :: r, _, 0, e => by simpa using e
  | x :: r, _, n + 1, e => by
      simp only [VRL] at e
      obtain ⟨y, r', h1, h2, rfl⟩ := e
      simp only [List.drop_succ_cons]
      exact VRL.drop n h2

/-- a constant: a value that names no block -/
def cst : Value → Bool
  | .bool _ | .int _ _ | .string _ | .pointer none | .slice none _ _ | .map none | .nilFunc | .nilIface => true
  | _ => false
theorem cst_VR {ρ : Ren} {v : Value} (h : cst v = true) : VR ρ v v := by
  unfold cst at h
  split at h <;> first | simp [VR] | simp at h

theorem VR_undef {ρ : Ren} : VR ρ undef undef := by unfold undef; simp [VR, VRL]

/-! ### Heaps -/
/-- a block: cells; a row that may grow; a row of n elements of k cells each, given by a function; the same, but only read, and known in part -/
inductive LO where
  | cells (c : List Value) (t : TypeId)
  | row (c : List Value) (t : TypeId) (size : Nat)
  | fn (k : Nat) (g : Nat → Nat → Value) (n : Nat) (t : TypeId)
  | arg (k : Nat) (g : Nat → Nat → Value) (n : Nat)

structure Heap where
  m : Tr LO
  next : Nat

noncomputable def Heap.get (H : Heap) (i : Nat) : Option LO := H.m.get i
noncomputable def Heap.put (H : Heap) (i : Nat) (o : LO) : Heap := { H with m := H.m.set i (some o) }
noncomputable def Heap.drop (H : Heap) (i : Nat) : Heap := { H with m := H.m.set i none }
noncomputable def Heap.new (H : Heap) (o : LO) : Heap := { m := H.m.set H.next (some o), next := H.next + 1 }

/-- no part is one of several cells -/
noncomputable def one : Value → Bool
  | .agg _ | .tuple _ | .chan _ => false
  | _ => true

/-- a row of elements stands in cells, from a place on -/
structure GR (ρ : Ren) (k : Nat) (g : Nat → Nat → Value) (n : Nat) (off : Nat) (c' : List Value) : Prop where
  val : ∀ e j, e < n → j < k → ∃ v', c'[off + (e * k + j)]? = some v' ∧ VR ρ (g e j) v'
  one : ∀ e j, e < n → j < k → one (g e j) = true
theorem GR.mono {ρ ρ' : Ren} (h : Ren.le ρ ρ') {k : Nat} {g : Nat → Nat → Value} {n off : Nat} {c' : List Value} (hg : GR ρ k g n off c') : GR ρ' k g n off c' :=
  ⟨fun e j he hj => by obtain ⟨v', h1, h2⟩ := hg.val e j he hj; exact ⟨v', h1, VR.mono h _ _ h2⟩, hg.one⟩

def LO.own : LO → Bool
  | .arg _ _ _ => false
  | _ => true

def OR (ρ : Ren) (i : Nat) : LO → Obj → Prop
  | .cells c t, o => ρ.off i = 0 ∧ ∃ c', VRL ρ c c' ∧ o = .cells ⟨c'⟩ t (0, 0)
  | .row c t z, o => ρ.off i = 0 ∧ ∃ c' d', VRL ρ c c' ∧ o = .cells ⟨c' ++ d'⟩ t (0, 0) ∧ c'.length + d'.length = ρ.cap i * z
  | .fn k g n t, o => ρ.off i = 0 ∧ ρ.wd i = k ∧ ∃ c' d', o = .cells ⟨c' ++ d'⟩ t (0, 0) ∧ c'.length = n * k ∧ c'.length + d'.length = ρ.cap i * k ∧ GR ρ k g n 0 c'
  | .arg _ _ _, _ => False

/-- a row that is only read: its cells, where it has any -/
structure AR (ρ : Ren) (i k : Nat) (g : Nat → Nat → Value) (n : Nat) (w : World) : Prop where
  wd : ρ.wd i = k
  cell : ∀ e j, e < n → j < k → one (g e j) = true ∧ ∃ b v', ρ i = some b ∧ w.cell? ⟨b, ρ.off i + (e * k + j), none⟩ = some v' ∧ VR ρ (g e j) v'
theorem AR.mono {ρ ρ' : Ren} (h : Ren.le ρ ρ') {i k n : Nat} {g : Nat → Nat → Value} {w : World} (hw : ρ'.wd i = ρ.wd i) (ha : AR ρ i k g n w) : AR ρ' i k g n w :=
  ⟨hw.trans ha.wd, fun e j he hj => by
    obtain ⟨h1, b, v', hb, hc, hv⟩ := ha.cell e j he hj
    have hs := h i b hb
    exact ⟨h1, b, v', hs.b.trans hb, by rw [hs.off]; exact hc, VR.mono h _ _ hv⟩⟩
theorem AR.world {ρ : Ren} {i k n : Nat} {g : Nat → Nat → Value} {w w' : World} (ha : AR ρ i k g n w) (hw : ∀ b, ρ i = some b → w'.heap[b]? = w.heap[b]?) : AR ρ i k g n w' :=
  ⟨ha.wd, fun e j he hj => by
    obtain ⟨h1, b, v', hb, hc, hv⟩ := ha.cell e j he hj
    refine ⟨h1, b, v', hb, ?_, hv⟩
    rw [← hc]; unfold World.cell?; rw [hw b hb]⟩

theorem OR.mono {ρ ρ' : Ren} (h : Ren.le ρ ρ') {i : Nat} (hi : ρ'.cap i = ρ.cap i) (ho : ρ'.off i = ρ.off i) (hw : ρ'.wd i = ρ.wd i) : ∀ (o : LO) (o' : Obj), OR ρ i o o' → OR ρ' i o o'
  | .cells c _, _, ⟨h0, c', h1, e⟩ => ⟨ho.trans h0, c', VRL.mono h c c' h1, e⟩
  | .row c _ z, _, ⟨h0, c', d', h1, e, e2⟩ => ⟨ho.trans h0, c', d', VRL.mono h c c' h1, e, by rw [hi]; exact e2⟩
  | .fn k g n t, _, ⟨h0, hk, c', d', e, e1, e2, hg⟩ => ⟨ho.trans h0, hw.trans hk, c', d', e, e1, by rw [hi]; exact e2, hg.mono h⟩
  | .arg _ _ _, _, e => e.elim

structure Rep (ρ : Ren) (H : Heap) (w : World) : Prop where
  small : H.next < big
  dom : ∀ i b, ρ i = some b → i < H.next ∧ b < w.heap.size
  inj : ∀ i j b o, H.get i = some o → o.own = true → (H.get j).isSome → ρ i = some b → ρ j = some b → i = j
  ltn : ∀ i o, H.get i = some o → i < H.next
  obj : ∀ i o, H.get i = some o → o.own = true → ρ.ro i = false ∧ ∃ b o', ρ i = some b ∧ w.heap[b]? = some o' ∧ OR ρ i o o'
  arg : ∀ i k g n, H.get i = some (.arg k g n) → ρ.ro i = true ∧ AR ρ i k g n w

/-- what a run leaves alone: whatever lay outside its blocks, or is only read -/
structure Keep (ρ : Ren) (w w' : World) : Prop where
  os : w'.os = w.os
  tape : w'.tape = w.tape
  output : w'.output = w.output
  size : w.heap.size ≤ w'.heap.size
  block : ∀ k, k < w.heap.size → (∀ i, ρ i = some k → ρ.ro i = true) → w'.heap[k]? = w.heap[k]?

theorem Keep.refl (ρ : Ren) (w : World) : Keep ρ w w := ⟨rfl, rfl, rfl, Nat.le_refl _, fun _ _ _ => rfl⟩

/-- new numbers stand for new blocks, or for blocks that had a number -/
def Fresh (ρ ρ' : Ren) (w : World) : Prop := ∀ i b, ρ' i = some b → w.heap.size ≤ b ∨ ∃ j, ρ j = some b ∧ (ρ'.ro i = false → ρ.ro j = false)

theorem Keep.trans {ρ ρ' : Ren} {w w' w'' : World} (hf : Fresh ρ ρ' w) (h : Keep ρ w w') (k : Keep ρ' w' w'') : Keep ρ w w'' :=
  ⟨k.os.trans h.os, k.tape.trans h.tape, k.output.trans h.output, Nat.le_trans h.size k.size, fun n hn hi => by
    rw [k.block n (Nat.lt_of_lt_of_le hn h.size) (fun i e => ?_), h.block n hn hi]
    rcases hf i n e with h1 | ⟨j, h1, h2⟩
    · omega
    · have h3 := hi j h1
      cases hro : ρ'.ro i with
      | true => rfl
      | false => rw [h2 hro] at h3; cases h3⟩
theorem Fresh.refl (ρ : Ren) (w : World) : Fresh ρ ρ w := fun i _ h => .inr ⟨i, h, id⟩
theorem Fresh.trans {a b c : Ren} {w w' : World} (hz : w.heap.size ≤ w'.heap.size) (h : Fresh a b w) (k : Fresh b c w') : Fresh a c w := fun i n e => by
  rcases k i n e with h1 | ⟨j, h1, h2⟩
  · exact .inl (by omega)
  · rcases h j n h1 with h3 | ⟨x, h3, h4⟩
    · exact .inl h3
    · exact .inr ⟨x, h3, fun e => h4 (h2 e)⟩
theorem Keep.drew (ρ : Ren) (w : World) : Keep ρ w w.drew := ⟨rfl, rfl, rfl, Nat.le_refl _, fun _ _ _ => rfl⟩
theorem Rep.drew {ρ : Ren} {H : Heap} {w : World} (h : Rep ρ H w) : Rep ρ H w.drew := ⟨h.small, h.dom, h.inj, h.ltn, h.obj, fun i k g n hi => ⟨(h.arg i k g n hi).1, (h.arg i k g n hi).2.world (fun _ _ => rfl)⟩⟩

/-- a slice's own block, where it has an element -/
theorem VR_slice_addr {ρ : Ren} {a : Addr} {n c : Nat} {v : Value} (h : VR ρ (.slice (some a) n c) v) (hn : n ≠ 0) :
    ∃ b c', ρ a.block = some b ∧ v = .slice (some ⟨b, ρ.at a, none⟩) n c' ∧ n ≤ c' ∧ (c ≠ capU → c' = c) ∧ (c = capU → ρ.at a = 0 → c' ≤ ρ.cap a.block) := by
  simp only [VR] at h
  obtain ⟨a', c', rfl, e2, e3, e4⟩ := h
  obtain ⟨b, hb, rfl, e6⟩ := e4 hn
  exact ⟨b, c', hb, rfl, e2, e3, e6⟩
theorem VR_slice_shape {ρ : Ren} {a : Option Addr} {n c : Nat} {v' : Value} (h : VR ρ (.slice a n c) v') : ∃ a' c', v' = .slice a' n c' := by
  cases a with
  | none => simp only [VR] at h; exact ⟨_, _, h⟩
  | some z => simp only [VR] at h; obtain ⟨a', c', rfl, _⟩ := h; exact ⟨_, _, rfl⟩
theorem VR_slice_some {ρ : Ren} {a : Addr} {n c : Nat} {v' : Value} (h : VR ρ (.slice (some a) n c) v') : ∃ a' c', v' = .slice (some a') n c' := by
  simp only [VR] at h; obtain ⟨a', c', rfl, _⟩ := h; exact ⟨_, _, rfl⟩
end Go.Ly
