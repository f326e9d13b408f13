/- Part R: blocks under other numbers; what a call does in a small heap it does in a greater one (frame). -/
import Derived.Test.YtofimkcfenemlaaLyP
namespace Go.Ly
open Go.RowKit
set_option linter.unusedSimpArgs false
set_option linter.unusedVariables false

mutual
/-- a value's blocks under other numbers -/
noncomputable def renV (σ : Nat → Nat) : Value → Value
  | .pointer (some a) => .pointer (some ⟨σ a.block, a.off, a.spot⟩)
  | .slice (some a) n c => .slice (some ⟨σ a.block, a.off, a.spot⟩) n c
  | .map (some r) => .map (some (σ r))
  | .func fn ⟨xs⟩ ⟨ys⟩ => .func fn ⟨renL σ xs⟩ ⟨renL σ ys⟩
  | .iface t x => .iface t (renV σ x)
  | .agg ⟨xs⟩ => .agg ⟨renL σ xs⟩
  | .tuple ⟨xs⟩ => .tuple ⟨renL σ xs⟩
  | v => v
noncomputable def renL (σ : Nat → Nat) : List Value → List Value
  | [] => []
  | v :: r => renV σ v :: renL σ r
end

/-- a renaming of other numbers -/
noncomputable def Ren.comp (ρ : Ren) (σ : Nat → Nat) : Ren := ⟨fun i => ρ (σ i), fun i => ρ.cap (σ i), fun i => ρ.ro (σ i), fun i => ρ.off (σ i), fun i => ρ.wd (σ i)⟩

theorem comp_at (ρ : Ren) (σ : Nat → Nat) (a : Addr) : (ρ.comp σ).at a = ρ.at ⟨σ a.block, a.off, a.spot⟩ := rfl

mutual
theorem VR_ren {ρ : Ren} {σ : Nat → Nat} : ∀ (v v' : Value), VR ρ (renV σ v) v' ↔ VR (ρ.comp σ) v v'
  | .bool _, _ => by simp [renV, VR]
  | .int _ _, _ => by simp [renV, VR]
  | .string _, _ => by simp [renV, VR]
  | .pointer none, _ => by simp [renV, VR]
  | .pointer (some a), _ => by simp only [renV, VR]; rfl
  | .slice none _ _, _ => by simp [renV, VR]
  | .slice (some a) n c, _ => by simp only [renV, VR]; rfl
  | .map none, _ => by simp [renV, VR]
  | .map (some r), _ => by simp only [renV, VR]; rfl
  | .func fn ⟨xs⟩ ⟨ys⟩, v' => by
    simp only [renV, VR]
    constructor
    · rintro ⟨xs', ys', h1, h2, h3⟩; exact ⟨xs', ys', (VRL_ren xs xs').1 h1, (VRL_ren ys ys').1 h2, h3⟩
    · rintro ⟨xs', ys', h1, h2, h3⟩; exact ⟨xs', ys', (VRL_ren xs xs').2 h1, (VRL_ren ys ys').2 h2, h3⟩
  | .nilFunc, _ => by simp [renV, VR]
  | .iface t x, v' => by
    simp only [renV, VR]
    constructor
    · rintro ⟨x', h1, h2⟩; exact ⟨x', (VR_ren x x').1 h1, h2⟩
    · rintro ⟨x', h1, h2⟩; exact ⟨x', (VR_ren x x').2 h1, h2⟩
  | .nilIface, _ => by simp [renV, VR]
  | .agg ⟨xs⟩, v' => by
    simp only [renV, VR]
    constructor
    · rintro ⟨x', h1, h2⟩; exact ⟨x', (VRL_ren xs x').1 h1, h2⟩
    · rintro ⟨x', h1, h2⟩; exact ⟨x', (VRL_ren xs x').2 h1, h2⟩
  | .tuple ⟨xs⟩, v' => by
    simp only [renV, VR]
    constructor
    · rintro ⟨x', h1, h2⟩; exact ⟨x', (VRL_ren xs x').1 h1, h2⟩
    · rintro ⟨x', h1, h2⟩; exact ⟨x', (VRL_ren xs x').2 h1, h2⟩
  | .float _ _, _ => by simp [renV, VR]
  | .complex _ _ _, _ => by simp [renV, VR]
  | .chan _, _ => by simp [renV, VR]
theorem VRL_ren {ρ : Ren} {σ : Nat → Nat} : ∀ (l l' : List Value), VRL ρ (renL σ l) l' ↔ VRL (ρ.comp σ) l l'
  | [], _ => by simp [renL, VRL]
  | v :: r, l' => by
    simp only [renL, VRL]
    constructor
    · rintro ⟨v', r', h1, h2, h3⟩; exact ⟨v', r', (VR_ren v v').1 h1, (VRL_ren r r').1 h2, h3⟩
    · rintro ⟨v', r', h1, h2, h3⟩; exact ⟨v', r', (VR_ren v v').2 h1, (VRL_ren r r').2 h2, h3⟩
end

theorem one_ren (σ : Nat → Nat) (v : Value) : one (renV σ v) = one v := by
  cases v with
  | pointer a => cases a <;> rfl
  | slice a n c => cases a <;> rfl
  | map r => cases r <;> rfl
  | func fn xs ys => obtain ⟨xs⟩ := xs; obtain ⟨ys⟩ := ys; rfl
  | agg xs => obtain ⟨xs⟩ := xs; rfl
  | tuple xs => obtain ⟨xs⟩ := xs; rfl
  | _ => rfl

noncomputable def renO (σ : Nat → Nat) : LO → LO
  | .cells c t => .cells (renL σ c) t
  | .row c t z => .row (renL σ c) t z
  | .fn k g n t => .fn k (fun e j => renV σ (g e j)) n t
  | .arg k g n => .arg k (fun e j => renV σ (g e j)) n
theorem own_ren (σ : Nat → Nat) (o : LO) : (renO σ o).own = o.own := by cases o <;> rfl

theorem GR_ren {ρ : Ren} {σ : Nat → Nat} {k n off : Nat} {g : Nat → Nat → Value} {c : List Value} : GR ρ k (fun e j => renV σ (g e j)) n off c ↔ GR (ρ.comp σ) k g n off c := by
  constructor
  · intro h
    exact ⟨fun e j he hj => by obtain ⟨v', h1, h2⟩ := h.val e j he hj; exact ⟨v', h1, (VR_ren _ _).1 h2⟩, fun e j he hj => by rw [← one_ren σ]; exact h.one e j he hj⟩
  · intro h
    exact ⟨fun e j he hj => by obtain ⟨v', h1, h2⟩ := h.val e j he hj; exact ⟨v', h1, (VR_ren _ _).2 h2⟩, fun e j he hj => by rw [one_ren σ]; exact h.one e j he hj⟩

theorem OR_ren {ρ : Ren} {σ : Nat → Nat} {i : Nat} : ∀ (o : LO) (o' : Obj), OR ρ (σ i) (renO σ o) o' ↔ OR (ρ.comp σ) i o o'
  | .cells c t, o' => by
    simp only [renO, OR]
    constructor
    · rintro ⟨h0, c', h1, h2⟩; exact ⟨h0, c', (VRL_ren _ _).1 h1, h2⟩
    · rintro ⟨h0, c', h1, h2⟩; exact ⟨h0, c', (VRL_ren _ _).2 h1, h2⟩
  | .row c t z, o' => by
    simp only [renO, OR]
    constructor
    · rintro ⟨h0, c', d', h1, h2⟩; exact ⟨h0, c', d', (VRL_ren _ _).1 h1, h2⟩
    · rintro ⟨h0, c', d', h1, h2⟩; exact ⟨h0, c', d', (VRL_ren _ _).2 h1, h2⟩
  | .fn k g n t, o' => by
    simp only [renO, OR]
    constructor
    · rintro ⟨h0, hk, c', d', h1, h2, h3, h4⟩; exact ⟨h0, hk, c', d', h1, h2, h3, GR_ren.1 h4⟩
    · rintro ⟨h0, hk, c', d', h1, h2, h3, h4⟩; exact ⟨h0, hk, c', d', h1, h2, h3, GR_ren.2 h4⟩
  | .arg k g n, o' => by simp only [renO, OR]

theorem AR_ren {ρ : Ren} {σ : Nat → Nat} {i k n : Nat} {g : Nat → Nat → Value} {w : World} : AR ρ (σ i) k (fun e j => renV σ (g e j)) n w ↔ AR (ρ.comp σ) i k g n w := by
  constructor
  · intro h
    refine ⟨h.wd, fun e j he hj => ?_⟩
    obtain ⟨h1, b, v', hb, hc, hv⟩ := h.cell e j he hj
    exact ⟨by rw [← one_ren σ]; exact h1, b, v', hb, hc, (VR_ren _ _).1 hv⟩
  · intro h
    refine ⟨h.wd, fun e j he hj => ?_⟩
    obtain ⟨h1, b, v', hb, hc, hv⟩ := h.cell e j he hj
    exact ⟨by rw [one_ren σ]; exact h1, b, v', hb, hc, (VR_ren _ _).2 hv⟩

section
variable {P : Program}

/-- the numbers of a small heap in a greater one: those that were there, and new ones behind all others -/
noncomputable def ext (σ : Nat → Nat) (n N : Nat) : Nat → Nat := fun i => bif Nat.blt i n then σ i else N + (i - n)
theorem ext_lt {σ : Nat → Nat} {n N i : Nat} (h : i < n) : ext σ n N i = σ i := by
  unfold ext; rw [show Nat.blt i n = true by simpa [Nat.blt_eq] using h]; rfl
theorem ext_ge {σ : Nat → Nat} {n N i : Nat} (h : n ≤ i) : ext σ n N i = N + (i - n) := by
  unfold ext
  have : Nat.blt i n = false := by
    cases hb : Nat.blt i n with
    | false => rfl
    | true => rw [Nat.blt_eq] at hb; omega
  rw [this]; rfl

/-- a small heap lies in a greater one -/
structure Fits (σ : Nat → Nat) (Hs H : Heap) : Prop where
  small : Hs.next < big
  full : ∀ i, i < Hs.next → ∃ o, Hs.get i = some o
  dom : ∀ i o, Hs.get i = some o → i < Hs.next
  lie : ∀ i o, Hs.get i = some o → H.get (σ i) = some (renO (ext σ Hs.next H.next) o)
  inj : ∀ i j, i < Hs.next → j < Hs.next → σ i = σ j → i = j

/-- what becomes of the greater heap -/
structure Merged (σ : Nat → Nat) (Hs H Hs' H' : Heap) : Prop where
  le : Hs.next ≤ Hs'.next
  next : H.next + (Hs'.next - Hs.next) ≤ H'.next
  small : H'.next < big
  obj : ∀ k o, H'.get k = some o → (∃ i os, ext σ Hs.next H.next i = k ∧ Hs'.get i = some os ∧ o = renO (ext σ Hs.next H.next) os) ∨
    ((∀ i, i < Hs.next → σ i ≠ k) ∧ H.get k = some o)

theorem LCalls.frame {f : FuncId} {args : List Value} {Hs H : Heap} {Qs Q : Value → Heap → Prop} {σ : Nat → Nat} (h : LCalls P f args Hs Qs) (hfit : Fits σ Hs H)
    (hQ : ∀ vs Hs', Qs vs Hs' → ∃ H', Merged σ Hs H Hs' H' ∧ Q (renV (ext σ Hs.next H.next) vs) H') : LCalls P f (renL (ext σ Hs.next H.next) args) H Q := by
  intro ρ args' w ha hr
  have ha' := (VRL_ren args args').1 ha
  generalize hσ : ext σ Hs.next H.next = τ at *
  have lie : ∀ i o, Hs.get i = some o → H.get (σ i) = some (renO τ o) := fun i o h => by rw [← hσ]; exact hfit.lie i o h
  have tlt : ∀ i, i < Hs.next → τ i = σ i := fun i hi => by rw [← hσ]; exact ext_lt hi
  have tge : ∀ i, Hs.next ≤ i → τ i = H.next + (i - Hs.next) := fun i hi => by rw [← hσ]; exact ext_ge hi
  have hnone : ∀ i, Hs.next ≤ i → (ρ.comp τ) i = none := fun i hi => by
    show ρ (τ i) = none
    rw [tge i hi]; exact hr.none_next (by omega)
  have hrs : Rep (ρ.comp τ) Hs w := by
    refine ⟨hfit.small, fun i b hb => ?_, fun i j b o hi hown hj h1 h2 => ?_, hfit.dom, fun i o ho hown => ?_, fun i k g n ho => ?_⟩
    · have hi : i < Hs.next := by
        rcases Nat.lt_or_ge i Hs.next with h1 | h1
        · exact h1
        · rw [hnone i h1] at hb; cases hb
      exact ⟨hi, (hr.dom _ _ hb).2⟩
    · have hi' := hfit.dom i o hi
      obtain ⟨oj, hoj⟩ := Option.isSome_iff_exists.1 hj
      have hj' := hfit.dom j oj hoj
      have e := hr.inj (σ i) (σ j) b (renO τ o) (lie i o hi) (by rw [own_ren]; exact hown) (by rw [lie j oj hoj]; rfl) (by rw [← tlt i hi']; exact h1) (by rw [← tlt j hj']; exact h2)
      exact hfit.inj i j hi' hj' e
    · have hi' := hfit.dom i o ho
      obtain ⟨hro, b, o', hb, hw, hor⟩ := hr.obj _ _ (lie i o ho) (by rw [own_ren]; exact hown)
      rw [← tlt i hi'] at hro hb hor
      exact ⟨hro, b, o', hb, hw, (OR_ren o o').1 hor⟩
    · have hi' := hfit.dom i _ ho
      obtain ⟨hro, har⟩ := hr.arg _ _ _ _ (lie i _ ho)
      rw [← tlt i hi'] at hro har
      exact ⟨hro, AR_ren.1 har⟩
  refine (h (ρ.comp τ) args' w ha' hrs).mono ?_
  rintro e w' ⟨ρs', vs, v', Hs', rfl, hq, hle, hfr, hv, hrs', hkeep⟩
  obtain ⟨H', hm, hQ'⟩ := hQ vs Hs' hq
  have hobj : ∀ k o, H'.get k = some o → (∃ i os, τ i = k ∧ Hs'.get i = some os ∧ o = renO τ os) ∨ ((∀ i, i < Hs.next → σ i ≠ k) ∧ H.get k = some o) := by
    intro k o ho
    have := hm.obj k o ho
    rwa [hσ] at this
  have σlt : ∀ i, i < Hs.next → σ i < H.next := fun i hi => by
    obtain ⟨o, ho⟩ := hfit.full i hi
    exact hr.lt (lie i o ho)
  -- numbers of the greater heap that had no block, and are numbers of the small one
  let back : Nat → Option Nat := fun k => if k < H.next then (if (ρ k).isSome then none else (List.range Hs.next).find? (fun i => σ i == k)) else some (Hs.next + (k - H.next))
  have back_some : ∀ k i, back k = some i → τ i = k := by
    intro k i h
    simp only [back] at h
    split at h
    · split at h
      · cases h
      · have h1 := List.find?_some h
        have h2 := List.mem_of_find?_eq_some h
        rw [tlt i (List.mem_range.1 h2)]; simpa using h1
    · simp only [Option.some.injEq] at h
      subst h; rw [tge _ (by omega)]; omega
  have back_tau : ∀ i, (ρ (τ i)).isSome = false → back (τ i) = some i := by
    intro i hn
    simp only [back]
    rcases Nat.lt_or_ge i Hs.next with hi | hi
    · rw [tlt i hi] at hn ⊢
      rw [if_pos (σlt i hi), if_neg (by rw [hn]; simp)]
      cases hf : (List.range Hs.next).find? (fun j => σ j == σ i) with
      | none =>
        have := List.find?_eq_none.1 hf i (List.mem_range.2 hi)
        simp at this
      | some j =>
        have h1 := List.find?_some hf
        have h2 := List.mem_of_find?_eq_some hf
        have : j = i := hfit.inj j i (List.mem_range.1 h2) hi (by simpa using h1)
        rw [this]
    · rw [tge i hi]
      rw [if_neg (by omega)]
      congr 1; omega
  have back_ge : ∀ k, H.next ≤ k → back k = some (Hs.next + (k - H.next)) := fun k hk => if_neg (by omega)
  have back_old : ∀ k b, ρ k = some b → back k = none := by
    intro k b hb
    simp only [back]
    rw [if_pos (hr.dom k b hb).1, if_pos (by rw [hb]; rfl)]
  let ρ' : Ren := ⟨fun k => match back k with | some i => ρs' i | none => ρ k, fun k => match back k with | some i => ρs'.cap i | none => ρ.cap k, fun k => match back k with | some i => ρs'.ro i | none => ρ.ro k,
    fun k => match back k with | some i => ρs'.off i | none => ρ.off k, fun k => match back k with | some i => ρs'.wd i | none => ρ.wd k⟩
  have viaB : ∀ k i, back k = some i → (ρ' k = ρs' i ∧ ρ'.cap k = ρs'.cap i ∧ ρ'.ro k = ρs'.ro i ∧ ρ'.off k = ρs'.off i ∧ ρ'.wd k = ρs'.wd i) := by
    intro k i h
    simp only [ρ', h, and_self]
  have viaN : ∀ k, back k = none → Ren.same ρ ρ' k := by
    intro k h
    refine ⟨?_, ?_, ?_, ?_, ?_⟩ <;> simp only [ρ', h]
  have old : ∀ k b, ρ k = some b → Ren.same ρ ρ' k := fun k b hb => viaN k (back_old k b hb)
  -- under the small numbers it is the small heap's
  have hsame : ∀ i, Ren.same ρs' (ρ'.comp τ) i := by
    intro i
    cases hb : ρ (τ i) with
    | some b0 =>
      have h1 := hle i b0 hb
      have h2 := old (τ i) b0 hb
      exact ⟨h2.b.trans h1.b.symm, h2.cap.trans h1.cap.symm, h2.ro.trans h1.ro.symm, h2.off.trans h1.off.symm, h2.wd.trans h1.wd.symm⟩
    | none =>
      have h1 := viaB (τ i) i (back_tau i (by rw [hb]; rfl))
      exact ⟨h1.1, h1.2.1, h1.2.2.1, h1.2.2.2.1, h1.2.2.2.2⟩
  have hles : Ren.le ρs' (ρ'.comp τ) := fun i b _ => hsame i
  have hle' : Ren.le ρ ρ' := old
  have hfresh : Fresh ρ ρ' w := by
    intro k b hb
    cases hk : back k with
    | none =>
      have hs := viaN k hk
      exact .inr ⟨k, by rw [← hs.b]; exact hb, fun e => by rw [← hs.ro]; exact e⟩
    | some i =>
      obtain ⟨e1, _, e3, _⟩ := viaB k i hk
      rw [e1] at hb
      rcases hfr i b hb with h1 | ⟨j, h1, h2⟩
      · exact .inl h1
      · exact .inr ⟨τ j, h1, fun e => h2 (by rw [← e3]; exact e)⟩
  have hkeep' : Keep ρ w w' := ⟨hkeep.os, hkeep.tape, hkeep.output, hkeep.size, fun k hk hi => hkeep.block k hk (fun i e => hi (τ i) e)⟩
  have hv' : VR ρ' (renV τ vs) v' := (VR_ren vs v').2 (VR.mono hles vs v' hv)
  -- a block that the call was told of, and is one's own, stands under no other number
  have apart : ∀ k o b j, H.get k = some o → (∀ i, i < Hs.next → σ i ≠ k) → ρ k = some b → (ρ.comp τ) j = some b → (o.own = true ∨ ρ.ro (τ j) = false) → False := by
    intro k o b j hk hn hb hj hor
    have hj' : j < Hs.next := by
      rcases Nat.lt_or_ge j Hs.next with h5 | h5
      · exact h5
      · rw [hnone j h5] at hj; cases hj
    obtain ⟨oj, hoj⟩ := hfit.full j hj'
    have hl := lie j oj hoj
    have hj2 : ρ (σ j) = some b := by rw [← tlt j hj']; exact hj
    rcases hor with ho | ho
    · exact hn j hj' (hr.inj k (σ j) b o hk ho (by rw [hl]; rfl) hb hj2).symm
    · have hown : (renO τ oj).own = true := by
        rcases LO.arg_or (renO τ oj) with h1 | ⟨a1, a2, a3, h1⟩
        · exact h1
        · rw [h1] at hl
          have := (hr.arg _ _ _ _ hl).1
          rw [tlt j hj'] at ho
          rw [ho] at this; cases this
      exact hn j hj' (hr.inj (σ j) k b _ hl hown (by rw [hk]; rfl) hj2 hb)
  refine ⟨ρ', renV τ vs, v', H', rfl, hQ', hle', hfresh, hv', ⟨hm.small, ?_, ?_, ?_, ?_, ?_⟩, hkeep'⟩
  · intro k b hb
    have hnx := hm.next
    have hml := hm.le
    cases hk : back k with
    | none =>
      have hb' : ρ k = some b := by rw [← (viaN k hk).b]; exact hb
      have := hr.dom k b hb'
      exact ⟨by omega, Nat.lt_of_lt_of_le this.2 hkeep.size⟩
    | some i =>
      rw [(viaB k i hk).1] at hb
      have hd := hrs'.dom i b hb
      refine ⟨?_, hd.2⟩
      rcases Nat.lt_or_ge k H.next with h1 | h1
      · omega
      · rw [back_ge k h1] at hk
        simp only [Option.some.injEq] at hk; omega
  · intro k1 k2 b o1 h1 hown h2 hb1 hb2
    obtain ⟨o2, h2'⟩ := Option.isSome_iff_exists.1 h2
    have toS : ∀ i, ρ' (τ i) = ρs' i := fun i => (hsame i).b
    have oldb : ∀ k o, (∀ i, i < Hs.next → σ i ≠ k) → H.get k = some o → back k = none := by
      intro k o hn hk
      cases hbk : back k with
      | none => rfl
      | some i =>
        exfalso
        have hlt := hr.lt hk
        have e := back_some k i hbk
        rcases Nat.lt_or_ge i Hs.next with hi | hi
        · rw [tlt i hi] at e; exact hn i hi e
        · rw [tge i hi] at e; omega
    rcases hobj k1 o1 h1 with ⟨i1, os1, rfl, g1, rfl⟩ | ⟨n1, g1⟩
    · have c1 : ρs' i1 = some b := by rw [← toS i1]; exact hb1
      rw [own_ren] at hown
      rcases hobj k2 o2 h2' with ⟨i2, os2, rfl, g2, rfl⟩ | ⟨n2, g2⟩
      · have c2 : ρs' i2 = some b := by rw [← toS i2]; exact hb2
        rw [hrs'.inj i1 i2 b os1 g1 hown (by rw [g2]; rfl) c1 c2]
      · exfalso
        have hb2' : ρ k2 = some b := by rw [← (viaN k2 (oldb k2 o2 n2 g2)).b]; exact hb2
        rcases hfr i1 b c1 with h3 | ⟨j, h3, h4⟩
        · have := (hr.dom k2 b hb2').2; omega
        · exact apart k2 o2 b j g2 n2 hb2' h3 (.inr (h4 (hrs'.obj i1 os1 g1 hown).1))
    · have hb1' : ρ k1 = some b := by rw [← (viaN k1 (oldb k1 o1 n1 g1)).b]; exact hb1
      rcases hobj k2 o2 h2' with ⟨i2, os2, rfl, g2, rfl⟩ | ⟨n2, g2⟩
      · exfalso
        have c2 : ρs' i2 = some b := by rw [← toS i2]; exact hb2
        rcases hfr i2 b c2 with h3 | ⟨j, h3, h4⟩
        · have := (hr.dom k1 b hb1').2; omega
        · exact apart k1 o1 b j g1 n1 hb1' h3 (.inl hown)
      · have hb2' : ρ k2 = some b := by rw [← (viaN k2 (oldb k2 o2 n2 g2)).b]; exact hb2
        exact hr.inj k1 k2 b o1 g1 hown (by rw [g2]; rfl) hb1' hb2'
  · intro k o ho
    have hnx := hm.next
    have hml := hm.le
    rcases hobj k o ho with ⟨i, os, e, g, rfl⟩ | ⟨n, g⟩
    · have := hrs'.lt g
      rcases Nat.lt_or_ge i Hs.next with hi | hi
      · rw [tlt i hi] at e; have := σlt i hi; omega
      · rw [tge i hi] at e; omega
    · have := hr.lt g; omega
  · intro k o ho hown
    rcases hobj k o ho with ⟨i, os, rfl, g, rfl⟩ | ⟨n, g⟩
    · rw [own_ren] at hown
      obtain ⟨hro, b, o', hb, hw, hor⟩ := hrs'.obj i os g hown
      have hs := hsame i
      exact ⟨hs.ro.trans hro, b, o', hs.b.trans hb, hw, (OR_ren os o').2 (OR.mono hles hs.cap hs.off hs.wd os o' hor)⟩
    · obtain ⟨hro, b, o', hb, hw, hor⟩ := hr.obj k o g hown
      have hs := old k b hb
      refine ⟨hs.ro.trans hro, b, o', hs.b.trans hb, ?_, OR.mono hle' hs.cap hs.off hs.wd o o' hor⟩
      rw [hkeep.block b (hr.dom k b hb).2 (fun i e => (apart k o b i g n hb e (.inl hown)).elim)]
      exact hw
  · intro k k' gg nn ho
    rcases hobj k _ ho with ⟨i, os, rfl, g, e⟩ | ⟨n, g⟩
    · cases os with
      | arg q1 q2 q3 =>
        simp only [renO, LO.arg.injEq] at e
        obtain ⟨rfl, rfl, rfl⟩ := e
        obtain ⟨hro, har⟩ := hrs'.arg i _ _ _ g
        have hs := hsame i
        exact ⟨hs.ro.trans hro, AR_ren.2 (har.mono hles hs.wd)⟩
      | _ => simp [renO] at e
    · obtain ⟨hro, har⟩ := hr.arg k _ _ _ g
      have hbk : back k = none := by
        cases hbk : back k with
        | none => rfl
        | some i =>
          exfalso
          have hlt := hr.lt g
          have e := back_some k i hbk
          rcases Nat.lt_or_ge i Hs.next with hi | hi
          · rw [tlt i hi] at e; exact n i hi e
          · rw [tge i hi] at e; omega
      have hs := viaN k hbk
      refine ⟨hs.ro.trans hro, (har.world (fun b hb => ?_)).mono hle' hs.wd⟩
      refine hkeep.block b (hr.dom k b hb).2 (fun i e => ?_)
      cases hro2 : (ρ.comp τ).ro i with
      | true => rfl
      | false => exact (apart k _ b i g n hb e (.inr hro2)).elim
end
end Go.Ly
