/- Part F: struct, array and slice literals; slices; calls; len. -/
import Derived.Test.YtofimkcfenemlaaLyE
import Derived.Laws.Tables
namespace Go.Ly
set_option linter.unusedSimpArgs false
set_option linter.unusedVariables false
section
variable {E : Env} {P : Program} {ρ : Ren} {w : World} {H : Heap}

/-! ### literals -/
noncomputable def fillL (place : Nat → Option (Nat × Nat)) (cells : List Value) : List (Nat × Value) → Option (List Value)
  | [] => some cells
  | (i, v) :: rest =>
    match place i with
    | none => none
    | some (off, size) =>
      let l := cellsL v
      bif Nat.beq l.length size && Nat.ble (off + l.length) cells.length && l.all one then fillL place (wrL cells off l) rest else none

theorem foldl_wr (off : Nat) : ∀ (l : List Value) (k : Nat) (c : List Value),
    (l.zipIdx k).foldl (fun (cs : Array Value) (p : Value × Nat) => cs.setIfInBounds (off + p.2) p.1) ⟨c⟩ = ⟨wrL c (off + k) l⟩
  | [], k, c => rfl
  | v :: r, k, c => by
    simp only [List.zipIdx_cons, List.foldl_cons, wrL]
    have := foldl_wr off r (k + 1) (c.set (off + k) v)
    simp only [List.setIfInBounds_toArray]
    exact this

/-- the parts of a literal, as they are and as they stand for -/
noncomputable def PR (ρ : Ren) : List (Nat × Value) → List (Nat × Value) → Prop
  | [], l => l = []
  | (i, v) :: r, l => ∃ v' r', VR ρ v v' ∧ PR ρ r r' ∧ l = (i, v') :: r'

theorem fill_good (place : Nat → Option (Nat × Nat)) : ∀ (parts parts' : List (Nat × Value)) (c c' r : List Value), PR ρ parts parts' → VRL ρ c c' → fillL place c parts = some r →
    ∃ r', VRL ρ r r' ∧ Instr.fill place ⟨c'⟩ parts' = some ⟨r'⟩
  | [], parts', c, c', r, hp, hc, h => by
    simp only [PR] at hp; subst hp; simp only [fillL, Option.some.injEq] at h; subst h; exact ⟨c', hc, rfl⟩
  | (i, v) :: rest, parts', c, c', r, hp, hc, h => by
    simp only [PR] at hp
    obtain ⟨v', r', hv, hr, rfl⟩ := hp
    simp only [fillL] at h
    cases hpl : place i with
    | none => rw [hpl] at h; simp at h
    | some os =>
      obtain ⟨off, size⟩ := os
      rw [hpl] at h; simp only at h
      cases hcond : (Nat.beq (cellsL v).length size && Nat.ble (off + (cellsL v).length) c.length && (cellsL v).all one) with
      | false => rw [hcond] at h; simp at h
      | true =>
        rw [hcond] at h; simp only [cond_true] at h
        simp only [Bool.and_eq_true] at hcond
        obtain ⟨⟨h1, h2⟩, h3⟩ := hcond
        have h1' := Nat.eq_of_beq_eq_true h1
        have h2' := Nat.le_of_ble_eq_true h2
        obtain ⟨l', hl, hcells⟩ := cells_VR hv h3
        have hlen := VRL.length hl
        have hclen := VRL.length hc
        obtain ⟨r'', hr1, hr2⟩ := fill_good place rest r' (wrL c off (cellsL v)) (wrL c' off l') r hr (VRL.wr off hc hl) h
        refine ⟨r'', hr1, ?_⟩
        have hsz : v'.cells.size = size := by rw [hcells]; simp; omega
        have hfold : v'.cells.zipIdx.foldl (fun cs x => cs.setIfInBounds (off + x.2) x.1) ⟨c'⟩ = (⟨wrL c' off l'⟩ : Array Value) := by
          rw [hcells]
          have := foldl_wr off l' 0 c'
          rw [Nat.add_zero] at this
          rw [← this, ← Array.foldl_toList]
          simp
        rw [Instr.fill, hpl]
        simp only
        rw [if_neg (by simp [hsz]; omega)]
        exact (congrArg (fun x => Instr.fill place x r') hfold).trans hr2

noncomputable def zpart (E : Env) (f : Field) : Option (Nat × Nat) := (E.ty.get f.type).map fun i => (f.offset, i.size)

noncomputable def evBuild (E : Env) (t : TypeId) (parts : List (Nat × Value)) : ER :=
  match E.ty.get t with
  | none => .no
  | some i =>
    match zeroC i with
    | none => .no
    | some z =>
      match i.desc with
      | .struct fs =>
        bif fs.toList.all (fun f => (E.ty.get f.type).isSome) then
          (match fillL (fun k => (fs.toList[k]?).bind (zpart E)) z parts with | some c => .val (.agg ⟨c⟩) | none => .no)
        else .no
      | .array _ elem =>
        match E.ty.get elem with
        | none => .no
        | some j => match fillL (fun k => some (k * j.size, j.size)) z parts with | some c => .val (.agg ⟨c⟩) | none => .no
      | _ => .no

theorem mapM_zpart (hE : E.Ok P) : ∀ (fs : List Field), fs.all (fun f => (E.ty.get f.type).isSome) = true →
    ∃ pl, fs.mapM (fun f => (P.info? f.type).map fun i => (f.offset, i.size)) = some pl ∧ ∀ k : Nat, pl[k]? = (fs[k]?).bind (zpart E)
  | [], _ => ⟨[], rfl, fun k => by simp⟩
  | f :: fs, h => by
    simp only [List.all_cons, Bool.and_eq_true] at h
    obtain ⟨pl, h1, h2⟩ := mapM_zpart hE fs h.2
    obtain ⟨i, hi⟩ := Option.isSome_iff_exists.1 h.1
    obtain ⟨_, ⟨j, hj, hs, _, _⟩, _⟩ := hE.ty f.type i hi
    refine ⟨(f.offset, i.size) :: pl, by simp [List.mapM_cons, h1, hj, hs], fun k => ?_⟩
    cases k with
    | zero => simp [zpart, hi]
    | succ k => simp [h2 k]

theorem evBuild_good (hE : E.Ok P) (t : TypeId) {parts parts' : List (Nat × Value)} (hp : PR ρ parts parts') :
    Next.Good P ρ w (valued ((Instr.build t ⟨parts'⟩).run P w)) (evBuild E t parts) := by
  unfold evBuild
  cases ht : E.ty.get t with
  | none => simp [Next.Good]
  | some i =>
    simp only
    obtain ⟨hu, _, _⟩ := hE.ty t i ht
    cases hz : zeroC i with
    | none => simp [Next.Good]
    | some z =>
      simp only
      obtain ⟨zv, h1, rfl, h3, h4⟩ := zeroC_spec hz
      split
      · rename_i fs hd
        cases hall : fs.toList.all (fun f => (E.ty.get f.type).isSome) with
        | false => simp [Next.Good]
        | true =>
          simp only [cond_true]
          cases hf : fillL (fun k => (fs.toList[k]?).bind (zpart E)) (cellsL zv) parts with
          | none => simp [Next.Good]
          | some c =>
            obtain ⟨r', hr1, hr2⟩ := fill_good _ _ _ _ _ _ hp (VRL_cst h3) hf
            obtain ⟨pl, hpl, hplk⟩ := mapM_zpart hE fs.toList hall
            rw [hd] at hu
            obtain ⟨_, ⟨jt, hjt, _, hz', _⟩, _⟩ := hE.ty t i ht
            refine ⟨_, VR_agg hr1, ?_⟩
            have hbuilt : P.built t parts' = some ⟨r'⟩ := by
              simp only [Program.built, hjt, hu, hz', h1, hpl]
              rw [h4, ← hr2]
              congr 1
              funext k
              simp [hplk k]
            simp [valued, run_build w t ⟨parts'⟩ _ hbuilt]
      · rename_i n elem hd
        cases he : E.ty.get elem with
        | none => simp [Next.Good]
        | some j =>
          simp only
          cases hf : fillL (fun k => some (k * j.size, j.size)) (cellsL zv) parts with
          | none => simp [Next.Good]
          | some c =>
            obtain ⟨r', hr1, hr2⟩ := fill_good _ _ _ _ _ _ hp (VRL_cst h3) hf
            rw [hd] at hu
            refine ⟨_, VR_agg hr1, ?_⟩
            simp [valued, Instr.build, run_zeroValue hE ht h1, run_underlying hu, run_sizeOf hE he, h4, hr2]
      · simp [Next.Good]
end
end Go.Ly
