/- Part Q: an argument, whatever its type is (numbers, truth values, texts, structs, arrays, slices of these): its cells, and what each holds. -/
import Derived.Deep.Slices
import Derived.OpenShut
import Derived.Carry
namespace Go.Ly
open Go.ChangeShapes Go.WideShapes Go.Deep Go.RowKit
set_option linter.unusedVariables false
set_option linter.unusedSimpArgs false

/-- what a cell holds -/
inductive CK where
  | bool
  | int (k : IntKind)
  | str
  | slice (e : List CK)

noncomputable def flatFs (P : Program) (F : TypeId → Option (List CK)) : Nat → List Field → Option (List CK)
  | _, [] => some []
  | off, f :: fs =>
    match F f.type with
    | none => none
    | some l => bif Nat.beq f.offset off && Nat.beq (P.cellsOf f.type) l.length then
        (match flatFs P F (off + l.length) fs with | some r => some (l ++ r) | none => none)
      else none

noncomputable def repL (l : List CK) : Nat → List CK
  | 0 => []
  | n + 1 => l ++ repL l n

noncomputable def flatT (P : Program) : Nat → TypeId → Option (List CK)
  | 0, _ => none
  | f + 1, t =>
    match P.underlying t with
    | some .bool => some [.bool]
    | some (.int k) => some [.int k]
    | some .string => some [.str]
    | some (.slice e) => match flatT P f e with
      | some l => bif Nat.beq (P.cellsOf e) l.length then some [.slice l] else none
      | none => none
    | some (.struct fs) => match flatFs P (flatT P f) 0 fs.toList with
      | some l => bif Nat.beq (P.cellsOf t) l.length then some l else none
      | none => none
    | some (.array n e) => match flatT P f e with
      | some l => bif Nat.beq (P.cellsOf e) l.length && Nat.beq (P.cellsOf t) (n * l.length) then some (repL l n) else none
      | none => none
    | _ => none

mutual
def CkOk (w : World) : CK → Value → Prop
  | .bool, v => ∃ b, v = .bool b
  | .int k, v => ∃ n, v = .int k n ∧ (Lit.int k n).wf = true
  | .str, v => ∃ s : ByteArray, v = .string s ∧ s.size ≤ maxLen
  | .slice e, v => v = .slice none 0 0 ∨ ∃ (a : Addr) (len cap : Nat) (F : Nat → List Value), v = .slice (some a) len cap ∧ len ≤ cap ∧ cap ≤ maxLen ∧
      ∀ i, i < len → (F i).length = e.length ∧ (∀ j, j < e.length → a.block < w.heap.size ∧ a.spot = none ∧ w.cell? (a.add (i * e.length + j)) = (F i)[j]?) ∧ CksOk w e (F i)
def CksOk (w : World) : List CK → List Value → Prop
  | [], l => l = []
  | k :: ks, l => ∃ v r, l = v :: r ∧ CkOk w k v ∧ CksOk w ks r
end

theorem CksOk.length {w : World} : ∀ {ks : List CK} {l : List Value}, CksOk w ks l → l.length = ks.length
  | [], l, h => by simp only [CksOk] at h; subst h; rfl
  | k :: ks, l, h => by
    simp only [CksOk] at h
    obtain ⟨v, r, rfl, _, h2⟩ := h
    simp [CksOk.length h2]

theorem CksOk.append {w : World} : ∀ {ks ks' : List CK} {l l' : List Value}, CksOk w ks l → CksOk w ks' l' → CksOk w (ks ++ ks') (l ++ l')
  | [], ks', l, l', h, h' => by simp only [CksOk] at h; subst h; simpa using h'
  | k :: ks, ks', l, l', h, h' => by
    simp only [CksOk] at h
    obtain ⟨v, r, rfl, h1, h2⟩ := h
    simp only [List.cons_append, CksOk]
    exact ⟨v, _, rfl, h1, CksOk.append h2 h'⟩

section
variable {H : Type} {enc : TypeId × Value → H} {P : Program} {w : World} {base : Nat} {spare : Nat → Bool} {held : Bool}

theorem cell_some {a : Addr} {v : Value} (h : w.cell? a = some v) : a.block < w.heap.size ∧ a.spot = none := by
  unfold World.cell? at h
  split at h
  · rename_i c t f hb
    refine ⟨?_, ?_⟩
    · rcases Nat.lt_or_ge a.block w.heap.size with h' | h'
      · exact h'
      · rw [Array.getElem?_eq_none h'] at hb; cases hb
    · split at h
      · cases h
      · rename_i hs; simpa using hs
  · cases h

theorem add_block (a : Addr) (n : Nat) : (a.add n).block = a.block := by unfold Addr.add; split <;> rfl

theorem drop_take_split (cs : List Value) (off k m : Nat) (h : off + (k + m) ≤ cs.length) :
    (cs.drop off).take (k + m) = (cs.drop off).take k ++ (cs.drop (off + k)).take m := by
  rw [List.take_add, List.drop_drop]

theorem flatFs_ok {F : TypeId → Option (List CK)} {n : Nat} {cs : List Value}
    (ih : ∀ t ks cs x, F t = some ks → DataW.trod enc P w base spare held n t cs = some x → CksOk w ks cs) :
    ∀ (fs : List Field) (off : Nat) (ks : List CK), flatFs P F off fs = some ks →
      (∀ f ∈ fs, ∃ x, DataW.trod enc P w base spare held n f.type ((cs.drop f.offset).take (P.cellsOf f.type)) = some x) →
      CksOk w ks ((cs.drop off).take ks.length)
  | [], off, ks, h, _ => by simp only [flatFs, Option.some.injEq] at h; subst h; simp [CksOk]
  | f :: fs, off, ks, h, hf => by
    simp only [flatFs] at h
    cases hF : F f.type with
    | none => rw [hF] at h; simp at h
    | some l =>
      rw [hF] at h; simp only at h
      cases hc : (Nat.beq f.offset off && Nat.beq (P.cellsOf f.type) l.length) with
      | false => rw [hc] at h; simp at h
      | true =>
        rw [hc] at h; simp only [cond_true] at h
        simp only [Bool.and_eq_true] at hc
        have h1 := Nat.eq_of_beq_eq_true hc.1
        have h2 := Nat.eq_of_beq_eq_true hc.2
        cases hr : flatFs P F (off + l.length) fs with
        | none => rw [hr] at h; simp at h
        | some r =>
          rw [hr] at h; simp only [Option.some.injEq] at h; subst h
          obtain ⟨x, hx⟩ := hf f (by simp)
          have hl := ih _ _ _ _ hF hx
          rw [h1, h2] at hl
          have hr' := flatFs_ok ih fs (off + l.length) r hr (fun g hg => hf g (by simp [hg]))
          have hlen := hl.length
          have hlen' := hr'.length
          rw [List.length_append, List.take_add, List.drop_drop]
          exact hl.append hr'

theorem repL_length (l : List CK) : ∀ n, (repL l n).length = n * l.length
  | 0 => by simp [repL]
  | n + 1 => by rw [repL, List.length_append, repL_length l n, Nat.add_mul]; omega

theorem repL_ok {l : List CK} {cs : List Value} : ∀ (n off : Nat), (∀ i, i < n → CksOk w l ((cs.drop (off + i * l.length)).take l.length)) → CksOk w (repL l n) ((cs.drop off).take (n * l.length))
  | 0, off, _ => by simp [repL, CksOk]
  | n + 1, off, h => by
    have h0 := h 0 (by omega)
    rw [Nat.zero_mul, Nat.add_zero] at h0
    have hr := repL_ok n (off + l.length) (fun i hi => by
      have := h (i + 1) (by omega)
      rwa [show off + (i + 1) * l.length = off + l.length + i * l.length by rw [Nat.add_mul]; omega] at this)
    rw [show (n + 1) * l.length = l.length + n * l.length by rw [Nat.add_mul]; omega, List.take_add, List.drop_drop]
    exact h0.append hr

theorem flatT_ok : ∀ (f : Nat) (t : TypeId) (ks : List CK) (n : Nat) (cs : List Value) (x : DataW H × List MemPlace), flatT P f t = some ks → DataW.trod enc P w base spare held n t cs = some x → CksOk w ks cs
  | 0, t, ks, n, cs, x, h, _ => by simp [flatT] at h
  | f + 1, t, ks, n, cs, x, h, ht => by
    simp only [flatT] at h
    split at h
    · rename_i hu
      simp only [Option.some.injEq] at h; subst h
      obtain ⟨b, rfl, _⟩ := DataW.trod_bool hu ht
      simp only [CksOk]
      exact ⟨_, [], rfl, by simp only [CkOk]; exact ⟨b, rfl⟩, rfl⟩
    · rename_i k hu
      simp only [Option.some.injEq] at h; subst h
      obtain ⟨m, rfl, _, hw⟩ := DataW.trod_int hu ht
      simp only [CksOk]
      exact ⟨_, [], rfl, by simp only [CkOk]; exact ⟨m, rfl, hw⟩, rfl⟩
    · rename_i hu
      simp only [Option.some.injEq] at h; subst h
      obtain ⟨s, rfl, _, hw⟩ := DataW.trod_string hu ht
      simp only [CksOk]
      exact ⟨_, [], rfl, by simp only [CkOk]; exact ⟨s, rfl, hw⟩, rfl⟩
    · rename_i e hu
      cases hl : flatT P f e with
      | none => rw [hl] at h; simp at h
      | some l =>
        rw [hl] at h; simp only at h
        cases hc : Nat.beq (P.cellsOf e) l.length with
        | false => rw [hc] at h; simp at h
        | true =>
          rw [hc] at h; simp only [cond_true, Option.some.injEq] at h; subst h
          have hc' := Nat.eq_of_beq_eq_true hc
          simp only [CksOk]
          rcases open_slice hu ht with ⟨rfl, _⟩ | ⟨a, len, cap, m, q, D, Pl, rfl, _, hlc, hcap, hm, _, hel⟩
          · exact ⟨_, [], rfl, by simp only [CkOk]; exact .inl trivial, rfl⟩
          · refine ⟨_, [], rfl, ?_, rfl⟩
            simp only [CkOk]
            right
            have hlen : len ≤ m := by rw [hm]; split <;> omega
            have hch : ∀ i, i < len → ∃ cs', cs'.length = l.length ∧ (∀ j, j < l.length → a.block < w.heap.size ∧ a.spot = none ∧ w.cell? (a.add (i * l.length + j)) = cs'[j]?) ∧ CksOk w l cs' := by
              intro i hi
              obtain ⟨cs', h1, h2⟩ := hel i (by omega)
              rw [hc'] at h1
              obtain ⟨_, hcl, hat⟩ := World.cells?_some h1
              refine ⟨cs', hcl, fun j hj => ?_, flatT_ok f e l q cs' _ hl h2⟩
              have hcell := hat j hj
              rw [Go.Deep.add_add] at hcell
              have hsome : w.cell? (a.add (i * l.length + j)) = some (cs'[j]'(by omega)) := by rw [hcell, List.getElem?_eq_getElem (by omega)]
              obtain ⟨g1, _⟩ := cell_some hsome
              rw [add_block] at g1
              obtain ⟨cs0, k1, _⟩ := hel 0 (by omega)
              rw [hc'] at k1
              obtain ⟨_, kcl, kat⟩ := World.cells?_some k1
              have kc := kat 0 (by omega)
              rw [Nat.zero_mul, List.getElem?_eq_getElem (by omega)] at kc
              have kz : (a.add 0).add 0 = a := by simp [Addr.add]
              rw [kz] at kc
              exact ⟨g1, (cell_some kc).2, hcell⟩
            obtain ⟨F, hF⟩ := choose_lt hch
            exact ⟨a, len, cap, F, rfl, hlc, hcap, hF⟩
    · rename_i fs hu
      cases hl : flatFs P (flatT P f) 0 fs.toList with
      | none => rw [hl] at h; simp at h
      | some l =>
        rw [hl] at h; simp only at h
        cases hc : Nat.beq (P.cellsOf t) l.length with
        | false => rw [hc] at h; simp at h
        | true =>
          rw [hc] at h; simp only [cond_true, Option.some.injEq] at h; subst h
          have hc' := Nat.eq_of_beq_eq_true hc
          obtain ⟨xs, q, _, _, hcl, hxl, hf⟩ := DataW.trod_struct hu ht
          have := flatFs_ok (w := w) (cs := cs) (fun t ks cs x h1 h2 => flatT_ok f t ks q cs x h1 h2) fs.toList 0 l hl (fun g hg => by
            obtain ⟨i, hi, rfl⟩ := List.getElem_of_mem hg
            have hi' : i < fs.size := by simpa using hi
            have h1 := hf i (fs.toList[i]) (by simp [hi'])
            rw [List.getElem?_eq_getElem (by omega)] at h1
            exact ⟨_, h1⟩)
          rw [List.drop_zero, List.take_of_length_le (by omega)] at this
          exact this
    · rename_i m e hu
      cases hl : flatT P f e with
      | none => rw [hl] at h; simp at h
      | some l =>
        rw [hl] at h; simp only at h
        cases hc : (Nat.beq (P.cellsOf e) l.length && Nat.beq (P.cellsOf t) (m * l.length)) with
        | false => rw [hc] at h; simp at h
        | true =>
          rw [hc] at h; simp only [cond_true, Option.some.injEq] at h; subst h
          simp only [Bool.and_eq_true] at hc
          have hc1 := Nat.eq_of_beq_eq_true hc.1
          have hc2 := Nat.eq_of_beq_eq_true hc.2
          obtain ⟨xs, q, _, _, hcl, hxl, hf⟩ := DataW.trod_array hu ht
          have := repL_ok (w := w) (l := l) (cs := cs) m 0 (fun i hi => by
            have h1 := hf i hi
            rw [List.getElem?_eq_getElem (by omega), hc1] at h1
            rw [Nat.zero_add]
            exact flatT_ok f e l q _ _ hl h1)
          rw [List.drop_zero, List.take_of_length_le (by omega)] at this
          exact this
    · simp at h

/-- an argument of one cell -/
theorem open_cell {t : TypeId} {v : Value} {d : DataW H} {p : List MemPlace} {k : CK} (hf : flatT P 9 t = some [k]) (hone : v.cells.toList = [v])
    (h : DataW.Trod enc P w base spare held t v d p) : CkOk w k v := by
  obtain ⟨fuel, hx⟩ := h
  have := flatT_ok 9 t [k] fuel _ _ hf hx
  rw [hone] at this
  simp only [CksOk] at this
  obtain ⟨u, r, e, h1, rfl⟩ := this
  simp only [List.cons.injEq, and_true] at e
  rw [e]; exact h1

/-- is a type one of several cells? -/
noncomputable def isAggT (P : Program) (t : TypeId) : Bool := match P.underlying t with | some (.struct _) | some (.array _ _) => true | _ => false

theorem one_of {r : Reach} {b0 : Nat} {t : TypeId} {v : Value} (ha : isAggT P t = false) (hv : Value.okWide P w r b0 t v) : v.cells.toList = [v] := by
  cases v with
  | agg cs =>
    exfalso
    unfold isAggT at ha
    unfold Value.okWide at hv
    split at ha
    · cases ha
    · cases ha
    · rename_i h1 h2
      split at hv
      · rename_i fs hu; exact h1 fs hu
      · rename_i m e hu; exact h2 m e hu
      · unfold Cell.okWide at hv
        split at hv <;> first | (rename_i h3 h4; cases h4; done) | skip
        all_goals first | (unfold Cell.ok at hv; split at hv <;> first | exact hv | (rename_i h5 h6; cases h6; done) | skip) | skip
        all_goals simp_all
  | _ => rfl

/-- an argument that is a struct or an array -/
theorem open_agg {r : Reach} {b0 : Nat} {t : TypeId} {v : Value} {d : DataW H} {p : List MemPlace} {ks : List CK} (hf : flatT P 9 t = some ks) (ha : isAggT P t = true)
    (hv : Value.okWide P w r b0 t v) (h : DataW.Trod enc P w base spare held t v d p) : ∃ cs, v = .agg ⟨cs⟩ ∧ CksOk w ks cs := by
  have hv' : ∃ cs, v = .agg cs := by
    unfold isAggT at ha
    unfold Value.okWide at hv
    split at ha
    · rename_i fs hu; rw [hu] at hv; obtain ⟨cs, h1, _⟩ := hv; exact ⟨cs, h1⟩
    · rename_i m e hu; rw [hu] at hv; obtain ⟨cs, h1, _⟩ := hv; exact ⟨cs, h1⟩
    · cases ha
  obtain ⟨cs, rfl⟩ := hv'
  obtain ⟨fuel, hx⟩ := h
  exact ⟨cs.toList, rfl, flatT_ok 9 t ks fuel _ _ hf hx⟩
end
end Go.Ly
