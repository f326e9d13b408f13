/- Part H: slices of slices, arrays and texts; append. -/
import Derived.Test.YtabhfbmaomkmhaaLxG
namespace Go.Lx
set_option linter.unusedSimpArgs false
set_option linter.unusedVariables false
section
variable {E : Env} {P : Program} {ρ : Ren} {w : World} {H : Heap}

noncomputable def getB (v : Option Value) (d : Int) : Option Int :=
  match v with
  | none => some d
  | some (.int _ n) => some n
  | _ => none

noncomputable def VRO (ρ : Ren) : Option Value → Option Value → Prop
  | none, v => v = none
  | some x, v => ∃ x', VR ρ x x' ∧ v = some x'

theorem run_bounds {isSlice : Bool} {len cap : Nat} {lo hi mx lo' hi' mx' : Option Value} (h1 : VRO ρ lo lo') (h2 : VRO ρ hi hi') (h3 : VRO ρ mx mx')
    {l h m : Int} (e1 : getB lo 0 = some l) (e2 : getB hi len = some h) (e3 : getB mx cap = some m) (hmh : mx = none ∨ hi ≠ none)
    (c1 : 0 ≤ l) (c2 : l ≤ h) (c3 : h ≤ m) (c4 : m ≤ cap) : (Instr.sliceBounds isSlice len cap lo' hi' mx').run P w = .ok (l.toNat, h.toNat, m.toNat) w := by
  have hmcap : (m.toNat : Int) = m := Int.toNat_of_nonneg (by omega)
  have hhn : (h.toNat : Int) = h := Int.toNat_of_nonneg (by omega)
  have hlo : (lo = none ∧ lo' = none ∧ l = 0) ∨ ∃ k, lo' = some (.int k l) := by
    unfold getB at e1
    split at e1
    · simp at e1; simp only [VRO] at h1; exact .inl ⟨rfl, h1, e1.symm⟩
    · simp at e1; subst e1; simp only [VRO, VR] at h1; obtain ⟨x, rfl, rfl⟩ := h1; exact .inr ⟨_, rfl⟩
    · simp at e1
  have hhi : (hi = none ∧ hi' = none ∧ h = len) ∨ ∃ k, hi' = some (.int k h) := by
    unfold getB at e2
    split at e2
    · simp at e2; simp only [VRO] at h2; exact .inl ⟨rfl, h2, e2.symm⟩
    · simp at e2; subst e2; simp only [VRO, VR] at h2; obtain ⟨x, rfl, rfl⟩ := h2; exact .inr ⟨_, rfl⟩
    · simp at e2
  have hmx : (mx = none ∧ mx' = none ∧ m = cap) ∨ ∃ k, mx' = some (.int k m) := by
    unfold getB at e3
    split at e3
    · simp at e3; simp only [VRO] at h3; exact .inl ⟨rfl, h3, e3.symm⟩
    · simp at e3; subst e3; simp only [VRO, VR] at h3; obtain ⟨x, rfl, rfl⟩ := h3; exact .inr ⟨_, rfl⟩
    · simp at e3
  have b1 : ∀ (k : IntKind) (y : Nat) (code : BoundsCode), l ≤ y → (Instr.sliceBound (.int k l) y code).run P w = .ok l.toNat w := fun k y code hy => run_sliceBound _ k l y code c1 hy
  have b2 : ∀ (k : IntKind) (y : Nat) (code : BoundsCode), h ≤ y → (Instr.sliceBound (.int k h) y code).run P w = .ok h.toNat w := fun k y code hy => run_sliceBound _ k h y code (by omega) hy
  have b3 : ∀ (k : IntKind) (y : Nat) (code : BoundsCode), m ≤ y → (Instr.sliceBound (.int k m) y code).run P w = .ok m.toNat w := fun k y code hy => run_sliceBound _ k m y code (by omega) hy
  have c5 : l ≤ (h.toNat : Int) := by omega
  have c6 : h ≤ (m.toNat : Int) := by omega
  rcases hmx with ⟨hm0, rfl, rfl⟩ | ⟨km, rfl⟩ <;> rcases hhi with ⟨hh0, rfl, rfl⟩ | ⟨kh, rfl⟩ <;> rcases hlo with ⟨_, rfl, rfl⟩ | ⟨kl, rfl⟩
  case inr.inl.inl => exfalso; rcases hmh with hmh | hmh <;> simp_all [VRO]
  case inr.inl.inr => exfalso; rcases hmh with hmh | hmh <;> simp_all [VRO]
  case inl.inl.inl => simp [Instr.sliceBounds]
  case inl.inl.inr => simp only [Instr.sliceBounds, Sem.run_bind, Sem.run_pure, Result.andThen_ok, b1 _ _ _ c2]; simp
  case inl.inr.inl => simp only [Instr.sliceBounds, Sem.run_bind, Sem.run_pure, Result.andThen_ok, b2 _ _ _ c3]; simp
  case inl.inr.inr => simp only [Instr.sliceBounds, Sem.run_bind, Sem.run_pure, Result.andThen_ok, b2 _ _ _ c3, b1 _ _ _ c5]; simp
  case inr.inr.inl => simp only [Instr.sliceBounds, Sem.run_bind, Sem.run_pure, Result.andThen_ok, b3 _ _ _ c4, b2 _ _ _ c6]; simp
  case inr.inr.inr => simp only [Instr.sliceBounds, Sem.run_bind, Sem.run_pure, Result.andThen_ok, b3 _ _ _ c4, b2 _ _ _ c6, b1 _ _ _ c5]

/-- a slice of a known row, cut -/
noncomputable def cutL (a : Addr) (l h m : Int) (size : Nat) : ER :=
  .tst (m == l) (.val (.slice (some a) (h.toNat - l.toNat) (m.toNat - l.toNat)))
    (.val (.slice (some ⟨a.block, a.off + l.toNat * size, none⟩) (h.toNat - l.toNat) (m.toNat - l.toNat)))

noncomputable def evSlice (E : Env) (t : TypeId) (x : Value) (lo hi mx : Option Value) : ER :=
  match E.ty.get t with
  | none => .no
  | some i =>
    bif mx.isSome && hi.isNone then .no else
    match i.desc, x with
    | .string, .string s =>
      bif mx.isSome then .no else
      match getB lo 0, getB hi s.size with
      | some l, some h => .tst (decide (0 ≤ l) && (decide (l ≤ h) && decide (h ≤ s.size))) (.val (.string (strCut s l.toNat h.toNat))) .no
      | _, _ => .no
    | .slice elem, .slice (some a) n c =>
      match E.ty.get elem, a.spot with
      | some j, none =>
        bif Nat.ble n c then
          (match getB lo 0, getB hi n, getB mx c with
          | some l, some h, some m => .tst (decide (0 ≤ l) && (decide (l ≤ h) && (decide (h ≤ m) && decide (m ≤ c)))) (cutL a l h m j.size) .no
          | _, _, _ => .no)
        else bif mx.isSome then .no else
          (match getB lo 0, getB hi n with
          | some l, some h => .tst (decide (0 ≤ l) && (decide (l ≤ h) && decide (h ≤ n)))
              (.tst (l == h) (.val (.slice (some ⟨a.block, a.off, some 0⟩) 0 0)) (.val (.slice (some ⟨a.block, a.off + l.toNat * j.size, none⟩) (h.toNat - l.toNat) 0))) .no
          | _, _ => .no)
      | _, _ => .no
    | .slice _, .slice none _ _ => .no
    | .array n elem, .pointer (some a) =>
      match E.ty.get elem with
      | some j =>
        (match getB lo 0, getB hi n, getB mx n with
        | some l, some h, some m => .tst (decide (0 ≤ l) && (decide (l ≤ h) && (decide (h ≤ m) && decide (m ≤ n)))) (cutL a l h m j.size) .no
        | _, _, _ => .no)
      | none => .no
    | _, _ => .no

theorem cutL_good {a : Addr} (hs : a.spot = none) {b : Nat} (hb : ρ a.block = some b) {l h m : Int} {size : Nat} (c1 : 0 ≤ l) (c2 : l ≤ h) (c3 : h ≤ m) {r : Result Next}
    (hr : r = .ok (.value (.slice (some (if m.toNat = l.toNat then (⟨b, a.off, none⟩ : Addr) else (⟨b, a.off, none⟩ : Addr).add (l.toNat * size))) (h.toNat - l.toNat) (m.toNat - l.toNat))) w) :
    Next.Good P ρ w r (cutL a l h m size) := by
  obtain ⟨ab, ao, as⟩ := a
  simp only at hs hb hr; subst hs
  unfold cutL
  simp only [Next.Good]
  refine ⟨fun e => ?_, fun e => ?_⟩
  · have e' : m = l := by simpa using e
    refine ⟨_, ?_, hr⟩
    rw [if_pos (by rw [e'])]
    simp only [VR]
    exact ⟨b, _, hb, rfl, fun _ => rfl, by omega, fun x => absurd (by omega) x⟩
  · have e' : m ≠ l := by simpa using e
    refine ⟨_, ?_, hr⟩
    rw [if_neg (by omega), addr_add]
    simp only [VR]
    exact ⟨b, _, hb, rfl, fun _ => rfl, by omega, fun x => absurd (by omega) x⟩

theorem isNone_of_VRO {x x' : Option Value} (h : VRO ρ x x') : x'.isSome = x.isSome := by
  cases x with
  | none => simp only [VRO] at h; rw [h]
  | some v => simp only [VRO] at h; obtain ⟨v', _, rfl⟩ := h; rfl

theorem evSlice_good (hE : E.Ok P) (t : TypeId) {x x' : Value} {lo hi mx lo' hi' mx' : Option Value} (hx : VR ρ x x') (h1 : VRO ρ lo lo') (h2 : VRO ρ hi hi') (h3 : VRO ρ mx mx') :
    Next.Good P ρ w (valued ((Instr.sliceAt t x' lo' hi' mx').run P w)) (evSlice E t x lo hi mx) := by
  unfold evSlice
  cases ht : E.ty.get t with
  | none => simp [Next.Good]
  | some i =>
    simp only
    obtain ⟨hu, _, _⟩ := hE.ty t i ht
    cases hmh : (mx.isSome && hi.isNone) with
    | true => simp [Next.Good]
    | false =>
      have hmh' : mx = none ∨ hi ≠ none := by
        cases mx <;> cases hi <;> simp_all
      simp only [cond_false]
      split
      · rename_i s hd
        rw [hd] at hu
        simp only [VR] at hx; subst hx
        cases hms : mx.isSome with
        | true => simp [Next.Good]
        | false =>
          have hm0 : mx = none := by cases mx <;> simp_all
          subst hm0
          simp only [VRO] at h3; subst h3
          simp only [cond_false]
          split
          · rename_i l h e1 e2
            simp only [Next.Good]
            refine ⟨fun hc => ?_, fun _ => trivial⟩
            simp only [Bool.and_eq_true, decide_eq_true_eq] at hc
            have hbd := run_bounds (P := P) (w := w) (isSlice := false) (cap := s.size) h1 h2 (mx := none) (mx' := none) (by simp [VRO]) e1 e2 (m := s.size) rfl (.inl rfl) hc.1 hc.2.1 hc.2.2 (Int.le_refl _)
            refine ⟨_, VR_string, ?_⟩
            rw [strCut_eq]
            simp [valued, Instr.sliceAt, Instr.slice, run_underlying hu, hbd]
          · simp [Next.Good]
      · rename_i elem a n c hd
        rw [hd] at hu
        split
        · rename_i j he hs
          simp only [VR] at hx
          rw [hs] at hx; simp only at hx
          obtain ⟨b, c', hb, rfl, g1, g2, g3⟩ := hx
          cases hnc : Nat.ble n c with
          | true =>
            obtain rfl := g1 (Nat.le_of_ble_eq_true hnc)
            simp only [cond_true]
            split
            · rename_i l h m e1 e2 e3
              simp only [Next.Good]
              refine ⟨fun hc => ?_, fun _ => trivial⟩
              simp only [Bool.and_eq_true, decide_eq_true_eq] at hc
              obtain ⟨k1, k2, k3, k4⟩ := hc
              have hbd := run_bounds (P := P) (w := w) (isSlice := true) h1 h2 h3 e1 e2 e3 hmh' k1 k2 k3 k4
              refine cutL_good hs hb k1 k2 k3 ?_
              simp only [valued, Instr.sliceAt, Sem.run_bind, run_underlying hu, Result.andThen_ok, Instr.slice, hbd, run_sizeOf hE he, Sem.run_pure]
              by_cases hml : m.toNat = l.toNat <;> simp [hml]
            · simp [Next.Good]
          | false =>
            have hnc' : ¬ n ≤ c := fun h => by rw [Nat.ble_eq_true_of_le h] at hnc; cases hnc
            simp only [cond_false]
            cases hms : mx.isSome with
            | true => simp [Next.Good]
            | false =>
              have hm0 : mx = none := by cases mx <;> simp_all
              subst hm0
              simp only [VRO] at h3; subst h3
              simp only [cond_false]
              split
              · rename_i l h e1 e2
                simp only [Next.Good]
                refine ⟨fun hc => ?_, fun _ => trivial⟩
                simp only [Bool.and_eq_true, decide_eq_true_eq] at hc
                obtain ⟨k1, k2, k3⟩ := hc
                have hbd := run_bounds (P := P) (w := w) (isSlice := true) (cap := c') h1 h2 (mx := none) (mx' := none) (by simp [VRO]) e1 e2 (m := c') rfl (.inl rfl) k1 k2 (by omega) (Int.le_refl _)
                have hrun : valued ((Instr.sliceAt t (.slice (some ⟨b, a.off, none⟩) n c') lo' hi' none).run P w) =
                    .ok (.value (.slice (if c' = l.toNat then some ⟨b, a.off, none⟩ else some ⟨b, a.off + l.toNat * j.size, none⟩) (h.toNat - l.toNat) (c' - l.toNat))) w := by
                  simp only [Int.toNat_natCast] at hbd
                  simp only [valued, Instr.sliceAt, Sem.run_bind, run_underlying hu, Result.andThen_ok, Instr.slice, hbd, run_sizeOf hE he, Sem.run_pure]
                  by_cases hml : c' = l.toNat
                  · rw [if_pos hml, if_pos hml]
                  · rw [if_neg hml, if_neg hml]; simp [addr_add]
                refine ⟨fun e => ?_, fun e => ?_⟩
                · have e' : l = h := by simpa using e
                  refine ⟨_, ?_, hrun⟩
                  simp only [VR]
                  refine ⟨trivial, ?_⟩
                  subst e'
                  rw [Nat.sub_self]
                  by_cases hml : c' = l.toNat
                  · rw [if_pos hml]; exact ⟨_, _, rfl⟩
                  · rw [if_neg hml]; exact ⟨_, _, rfl⟩
                · have e' : l ≠ h := by simpa using e
                  refine ⟨_, ?_, hrun⟩
                  rw [if_neg (by omega)]
                  simp only [VR]
                  refine ⟨b, _, hb, rfl, fun x => absurd x (by omega), by omega, fun _ ho => ?_⟩
                  have := g3 hnc' (by omega)
                  omega
              · simp [Next.Good]
        · simp [Next.Good]
      · simp [Next.Good]
      · rename_i n elem a hd
        rw [hd] at hu
        simp only [VR] at hx
        obtain ⟨hs, b, hb, rfl⟩ := hx
        cases he : E.ty.get elem with
        | none => simp [Next.Good]
        | some j =>
          simp only
          split
          · rename_i l h m e1 e2 e3
            simp only [Next.Good]
            refine ⟨fun hc => ?_, fun _ => trivial⟩
            simp only [Bool.and_eq_true, decide_eq_true_eq] at hc
            obtain ⟨k1, k2, k3, k4⟩ := hc
            have hbd := run_bounds (P := P) (w := w) (isSlice := false) h1 h2 h3 e1 e2 e3 hmh' k1 k2 k3 k4
            refine cutL_good hs hb k1 k2 k3 ?_
            simp only [valued, Instr.sliceAt, Sem.run_bind, run_underlying hu, Result.andThen_ok, Instr.sureAddr, hbd, run_sizeOf hE he, Sem.run_pure]
          · simp [Next.Good]
      · simp [Next.Good]

/-! ### append -/
/-- the cells of what is appended -/
noncomputable def srcL (H : Heap) (size : Nat) (x : Value) : Option (Nat × List Value) :=
  match x with
  | .slice none 0 0 => some (0, [])
  | .slice (some a) n _ =>
    match a.spot with
    | none => match H.get a.block with
      | some o =>
        let l := (o.cs.drop a.off).take (n * size)
        bif Nat.beq l.length (n * size) then some (n, l) else none
      | none => none
    | some _ => some (0, [])
  | _ => none

theorem srcL_good (hr : Rep ρ H w) {size n : Nat} {x x' : Value} {l : List Value} (hx : VR ρ x x') (h : srcL H size x = some (n, l)) :
    ∃ l' a' c', VRL ρ l l' ∧ l'.length = n * size ∧ x' = .slice a' n c' ∧ (∀ W : World, (∀ k : Nat, k < w.heap.size → W.heap[k]? = w.heap[k]?) → (Builtin.firstCells size n x').run P W = .ok ⟨l'⟩ W) ∧
      (Builtin.lenOf x').run P w = .ok n w := by
  unfold srcL at h
  split at h
  · simp at h; obtain ⟨rfl, rfl⟩ := h
    simp only [VR] at hx; subst hx
    exact ⟨[], none, 0, by simp [VRL], by simp, rfl, fun W _ => by simp [Builtin.firstCells], by simp [Builtin.lenOf]⟩
  · rename_i a n0 c0
    cases hs : a.spot with
    | none =>
      rw [hs] at h; simp only at h
      cases ho : H.get a.block with
      | none => rw [ho] at h; simp at h
      | some o =>
        rw [ho] at h; simp only at h
        cases hl : Nat.beq ((o.cs.drop a.off).take (n0 * size)).length (n0 * size) with
        | false => rw [hl] at h; simp at h
        | true =>
          rw [hl] at h; simp at h; obtain ⟨rfl, rfl⟩ := h
          have hl' := Nat.eq_of_beq_eq_true hl
          simp only [VR] at hx
          rw [hs] at hx; simp only at hx
          obtain ⟨b, c', hb, rfl, _⟩ := hx
          obtain ⟨b', cc, dd, hb', hblk, hc, _⟩ := hr.block ho
          obtain rfl : b' = b := by rw [hb] at hb'; exact (Option.some.inj hb').symm
          have hv := VRL.take (n0 * size) (VRL.drop a.off hc)
          have hlen : ((cc.drop a.off).take (n0 * size)).length = n0 * size := by rw [VRL.length hv]; exact hl'
          refine ⟨_, _, _, hv, hlen, rfl, fun W hW => ?_, by simp [Builtin.lenOf]⟩
          have hblk' : W.heap[b']? = some (.cells ⟨cc ++ dd⟩ o.ty (0, 0)) := by
            rw [hW b' (hr.dom _ _ hb).2]; exact hblk
          have := run_firstCells_some (P := P) W size n0 ⟨b', a.off, none⟩ n0 c' ((cc.drop a.off).take (n0 * size)) hlen (fun j v hj => by
            rw [addr_add, cell_of hblk']
            have hjl : j < n0 * size := by have := (List.getElem?_eq_some_iff.1 hj).1; omega
            rw [List.getElem?_take_of_lt hjl, List.getElem?_drop] at hj
            rw [List.getElem?_append_left (by have := (List.getElem?_eq_some_iff.1 hj).1; omega)]
            exact hj)
          exact this
    | some q =>
      rw [hs] at h; simp at h; obtain ⟨rfl, rfl⟩ := h
      simp only [VR] at hx
      rw [hs] at hx; simp only at hx
      obtain ⟨rfl, a', c', rfl⟩ := hx
      refine ⟨[], _, _, by simp [VRL], by simp, rfl, fun W _ => ?_, by simp [Builtin.lenOf]⟩
      simp [Builtin.firstCells, loadCells, loadCellsFrom]
  · simp at h

noncomputable def growL (H : Heap) (c : List Value) (elem : TypeId) (size n : Nat) : ER :=
  bif Nat.blt (H.next + 1) 2147483000 && (c.all one && Nat.ble 1 n) then .mem (.slice (some ⟨H.next, 0, none⟩) n 0) (H.new (.row c elem size)) else .no

theorem zeroCells_length (z : Array Value) (n : Nat) : (Builtin.zeroCells z n).toList.length = n * z.size := by simp [Builtin.zeroCells]

theorem growL_good (hr : Rep ρ H w) {c c' : List Value} {elem : TypeId} {size n cap : Nat} (hc : VRL ρ c c') (z : Array Value) (hz : z.size = size) (hn : n ≤ cap) (hl : c'.length = n * size) {r : Result Next}
    (hres : r = .ok (.value (.slice (some ⟨w.heap.size, 0, none⟩) n cap)) (w.drew.alloc (.cells (⟨c'⟩ ++ Builtin.zeroCells z (cap - n)) elem))) : Next.Good P ρ w r (growL H c elem size n) := by
  unfold growL
  cases hcond : (Nat.blt (H.next + 1) 2147483000 && (c.all one && Nat.ble 1 n)) with
  | false => simp [Next.Good]
  | true =>
    simp only [cond_true]
    simp only [Bool.and_eq_true, Nat.blt_eq] at hcond
    have hn1 := Nat.le_of_ble_eq_true hcond.2.2
    have ha : (⟨c'⟩ : Array Value) ++ Builtin.zeroCells z (cap - n) = ⟨c' ++ (Builtin.zeroCells z (cap - n)).toList⟩ := by apply Array.ext'; simp
    rw [ha] at hres
    obtain ⟨h1, h2, h3⟩ := hr.drew.new (o := .row c elem size) (o' := .cells ⟨c' ++ (Builtin.zeroCells z (cap - n)).toList⟩ elem (0, 0)) (by unfold big; exact hcond.1) cap
      ⟨c', _, VRL.mono (hr.ext_le _ _) _ _ hc, rfl, by
        rw [zeroCells_length, hl, hz, ← Nat.add_mul]
        simp only [Ren.ext, if_pos]
        congr 1; omega⟩
    have hsz : w.drew.heap.size = w.heap.size := rfl
    rw [hsz] at h1 h2
    refine ⟨_, _, _, hr.ext_le _ _, h2, ?_, hres, h1, Keep.trans (Fresh.refl _ _) (Keep.drew ρ w) h3⟩
    simp only [VR]
    exact ⟨w.heap.size, cap, by simp [Ren.ext], rfl, fun x => absurd x (by omega), hn, fun _ _ => by simp [Ren.ext]⟩

noncomputable def evAppend (E : Env) (H : Heap) (st xt : TypeId) (s x : Value) : ER :=
  match E.ty.get st, E.ty.get xt with
  | some i, some k =>
    match i.desc, k.desc with
    | .slice elem, .slice _ =>
      match E.ty.get elem with
      | none => .no
      | some j =>
        match srcL H j.size x, zeroC j with
        | some (n, new), some z =>
          bif Nat.beq z.length j.size && (Nat.ble j.bytes 1024 && Nat.ble 1 j.size) then
            (match s with
            | .slice none 0 0 => bif Nat.beq n 0 then .val (.slice none 0 0) else bif Nat.ble n 4294967296 then growL H new elem j.size n else .no
            | .slice (some a) m c =>
              (match a.spot, H.get a.block with
              | none, some o =>
                let old := (o.cs.drop a.off).take (m * j.size)
                bif Nat.beq old.length (m * j.size) && Nat.ble (m + n) 4294967296 then
                  (bif Nat.ble m c then
                    (bif Nat.ble (m + n) c then .no else growL H (old ++ new) elem j.size (m + n))
                  else
                    match o with
                    | .row cs t z' =>
                      bif Nat.beq a.off 0 && (Nat.beq cs.length (m * j.size) && (Nat.beq z' j.size && Nat.beq t elem)) then growL (H.drop a.block) (old ++ new) elem j.size (m + n) else .no
                    | .cells _ _ => .no)
                else .no
              | _, _ => .no)
            | _ => .no)
          else .no
        | _, _ => .no
    | _, _ => .no
  | _, _ => .no

theorem Rep.dropped (hr : Rep ρ H w) (i : Nat) (hi : i < big) : Rep ρ (H.drop i) w := by
  have hget : ∀ j, (H.drop i).get j = if j = i then none else H.get j := fun j => Tr.get_set _ _ _ hi j
  refine ⟨hr.small, hr.dom, fun j k b hj hk h1 h2 => ?_, fun j o ho => ?_⟩
  · rw [hget] at hj hk
    by_cases e1 : j = i
    · rw [if_pos e1] at hj; cases hj
    · by_cases e2 : k = i
      · rw [if_pos e2] at hk; cases hk
      · rw [if_neg e1] at hj; rw [if_neg e2] at hk; exact hr.inj j k b hj hk h1 h2
  · rw [hget] at ho
    by_cases e1 : j = i
    · rw [if_pos e1] at ho; cases ho
    · rw [if_neg e1] at ho; exact hr.obj j o ho

theorem Rep.congr {H' : Heap} (hg : ∀ q, H'.get q = H.get q) (hn : H'.next = H.next) (hr : Rep ρ H w) : Rep ρ H' w :=
  ⟨by rw [hn]; exact hr.small, by rw [hn]; exact hr.dom, fun i j b hi hj => hr.inj i j b (by rw [← hg]; exact hi) (by rw [← hg]; exact hj), fun i o ho => hr.obj i o (by rw [← hg]; exact ho)⟩

/-- a block that is known by a new number, its old one forgotten -/
theorem Rep.adopt (hr : Rep ρ H w) {i b k : Nat} {o0 o : LO} {o' : Obj} (h0 : H.get i = some o0) (hb : ρ i = some b) (hn : H.next + 1 < big) (ho : OR (ρ.ext H.next b k) H.next o o') :
    Rep (ρ.ext H.next b k) ((H.drop i).new o) (World.setBlk w b o') ∧ Fresh ρ (ρ.ext H.next b k) w ∧ Keep ρ w (World.setBlk w b o') := by
  have hi := hr.dom i b hb
  have hdget : ∀ j, (H.drop i).get j = if j = i then none else H.get j := fun j => Tr.get_set _ _ _ (Nat.lt_trans hi.1 hr.small) j
  have hnext : (H.drop i).next = H.next := rfl
  have hget : ∀ j, ((H.drop i).new o).get j = if j = H.next then some o else (H.drop i).get j := fun j => Tr.get_set _ _ _ hr.small j
  have hsz : (World.setBlk w b o').heap.size = w.heap.size := by simp [World.setBlk]
  have hne : ∀ j c x, H.get j = some x → j ≠ i → ρ j = some c → c ≠ b := by
    intro j c x hx hji hc hcb
    subst hcb
    exact hji (hr.inj j i c (by rw [hx]; rfl) (by rw [h0]; rfl) hc hb)
  have hlt : ∀ j x, H.get j = some x → j < H.next := by
    intro j x hx
    obtain ⟨c, _, hc, _⟩ := hr.obj j x hx
    exact (hr.dom j c hc).1
  refine ⟨⟨hn, ?_, ?_, ?_⟩, ?_, ?_⟩
  · intro j c h
    simp only [Ren.ext] at h
    rw [hsz]
    show j < H.next + 1 ∧ _
    split at h
    · rename_i e; subst e; simp at h; subst h; exact ⟨by omega, hi.2⟩
    · have := hr.dom j c h; exact ⟨by omega, this.2⟩
  · intro j m c hj hm h1 h2
    rw [hget, hdget] at hj hm
    simp only [Ren.ext] at h1 h2
    by_cases e1 : j = H.next <;> by_cases e2 : m = H.next
    · omega
    · rw [if_pos e1] at h1; rw [if_neg e2] at h2 hm; simp at h1; subst h1
      by_cases e3 : m = i
      · rw [if_pos e3] at hm; cases hm
      · rw [if_neg e3] at hm
        obtain ⟨x, hx⟩ := Option.isSome_iff_exists.1 hm
        exact absurd rfl (hne m _ x hx e3 h2)
    · rw [if_neg e1] at h1 hj; rw [if_pos e2] at h2; simp at h2; subst h2
      by_cases e3 : j = i
      · rw [if_pos e3] at hj; cases hj
      · rw [if_neg e3] at hj
        obtain ⟨x, hx⟩ := Option.isSome_iff_exists.1 hj
        exact absurd rfl (hne j _ x hx e3 h1)
    · rw [if_neg e1] at h1 hj; rw [if_neg e2] at h2 hm
      by_cases e3 : j = i
      · rw [if_pos e3] at hj; cases hj
      · by_cases e4 : m = i
        · rw [if_pos e4] at hm; cases hm
        · rw [if_neg e3] at hj; rw [if_neg e4] at hm; exact hr.inj j m c hj hm h1 h2
  · intro j x hx
    rw [hget, hdget] at hx
    by_cases e : j = H.next
    · rw [if_pos e] at hx; simp at hx; subst hx; subst e
      exact ⟨b, o', by simp [Ren.ext], by simp [World.setBlk, hi.2], ho⟩
    · rw [if_neg e] at hx
      by_cases e3 : j = i
      · rw [if_pos e3] at hx; cases hx
      · rw [if_neg e3] at hx
        obtain ⟨c, y, hc, hy, hor⟩ := hr.obj j x hx
        refine ⟨c, y, by simp only [Ren.ext]; rw [if_neg e]; exact hc, ?_, OR.mono (hr.ext_le _ _) (by simp only [Ren.ext]; rw [if_neg e]) _ _ hor⟩
        simp only [World.setBlk]
        rw [Array.getElem?_setIfInBounds_ne (Ne.symm (hne j c x hx e3 hc))]; exact hy
  · intro j c h
    simp only [Ren.ext] at h
    split at h
    · simp at h; subst h; exact .inr (.inr ⟨i, hb⟩)
    · exact .inl h
  · refine ⟨rfl, rfl, rfl, by rw [hsz]; exact Nat.le_refl _, fun m hm hmi => ?_⟩
    simp only [World.setBlk]
    rw [Array.getElem?_setIfInBounds_ne (fun (e : b = m) => hmi i (by rw [← e]; exact hb))]

theorem cap_ge (w : World) (need old : Nat) (e : TypeId) : need ≤ grownCap w need old e := by
  have : grownCap w need old e = need + (w.tape w.drawn (.appendCap need old e)) % (2 ^ 63 - need) := rfl
  omega

theorem next_le {need old bytes : Nat} (h : old < need) (h1 : need ≤ 4294967296) (h2 : bytes ≤ 1024) : ¬ (Builtin.nextslicecap need old * bytes > 2 ^ 48) := by
  have := growslice_fits (bytes := bytes) h (by
    calc need * bytes ≤ 4294967296 * 1024 := Nat.mul_le_mul h1 h2
      _ ≤ 140737488355328 := by decide)
  omega

theorem run_append_big {st xt ty elem : TypeId} {j : TypeInfo} {z : Value} {base : Option Addr} {m c n : Nat} {x' : Value} {old new : List Value} {d : TypeId}
    (hst : P.underlying st = some (.slice elem)) (hxt : P.underlying xt = some (.slice d)) (hj : P.info? elem = some j) (hz : j.zero = some z)
    (hlen : (Builtin.lenOf x').run P w = .ok n w) (hnew : (Builtin.firstCells j.size n x').run P w.drew = .ok ⟨new⟩ w.drew)
    (hold : (Builtin.firstCells j.size m (.slice base m c)).run P w.drew = .ok ⟨old⟩ w.drew) (hgt : c < m + n) (h1 : m + n ≤ 4294967296) (h2 : j.bytes ≤ 1024) :
    (Builtin.append_ #[st, xt] ty #[.slice base m c, x']).run P w = .ok (.slice (some ⟨w.heap.size, 0, none⟩) (m + n) (grownCap w (m + n) c elem))
      (w.drew.alloc (.cells ((⟨old ++ new⟩ : Array Value) ++ Builtin.zeroCells z.cells (grownCap w (m + n) c elem - (m + n))) elem)) := by
  have hn : ¬ (m + n ≤ c) := by omega
  have h63 : ¬ (((m + n : Nat) : Int) > IntKind.i64.max) := by
    have e : IntKind.i64.max = 9223372036854775807 := by decide
    rw [e]; omega
  have h48 := next_le hgt h1 h2
  have h63' : ¬ ((9223372036854775807 : Int) < (m : Int) + (n : Int) ∧ j.bytes = 0) := by omega
  have h48' : ¬ (281474976710656 < Builtin.nextslicecap (m + n) c * j.bytes) := by omega
  simp [Builtin.append_, run_underlying hst, run_underlying hxt, sizeOf, typeInfo, zeroValue, hj, hz, hlen, hn, h63', h48', Question.forced, hnew, hold, newRow, grownCap]
  rw [← Array.append_assoc]
  congr 3
  simp

theorem run_append_fit {st xt ty elem : TypeId} {j : TypeInfo} {b m c n : Nat} {x' : Value} {new cur : List Value} {d t : TypeId}
    (hst : P.underlying st = some (.slice elem)) (hxt : P.underlying xt = some (.slice d)) (hj : P.info? elem = some j)
    (hlen : (Builtin.lenOf x').run P w = .ok n w) (hnew : (Builtin.firstCells j.size n x').run P w = .ok ⟨new⟩ w) (hblk : w.heap[b]? = some (.cells ⟨cur⟩ t (0, 0)))
    (hle : m + n ≤ c) (hroom : m * j.size + new.length ≤ cur.length) (hone : ∀ v ∈ new, v.oneCell' = true) :
    (Builtin.append_ #[st, xt] ty #[.slice (some ⟨b, 0, none⟩) m c, x']).run P w = .ok (.slice (some ⟨b, 0, none⟩) (m + n) c) (World.setBlk w b (.cells ⟨wrL cur (m * j.size) new⟩ t (0, 0))) := by
  have hst' := run_storeCells_cells (P := P) b (m * j.size) new 0 w (fun k hk => by
      rw [cell_of hblk]; rw [List.getElem?_eq_getElem (by omega)]; rfl) (fun k hk => frozen_of hblk) hone
  rw [setCells_blk new (m * j.size + 0) w cur hblk, Nat.add_zero] at hst'
  simp [Builtin.append_, run_underlying hst, run_underlying hxt, sizeOf, typeInfo, hj, hlen, hle, hnew, addr_add, hst']

theorem wrL_end : ∀ (new a d : List Value), new.length ≤ d.length → wrL (a ++ d) a.length new = a ++ new ++ d.drop new.length
  | [], a, d, _ => by simp [wrL]
  | v :: r, a, [], h => by simp at h
  | v :: r, a, x :: d, h => by
    simp only [wrL]
    have e : (a ++ x :: d).set a.length v = (a ++ [v]) ++ d := by
      rw [List.set_append_right _ _ (Nat.le_refl _)]; simp
    have := wrL_end r (a ++ [v]) d (by simpa using h)
    simp only [List.length_append, List.length_cons, List.length_nil, Nat.zero_add] at this
    rw [e, this]; simp

theorem evAppend_good (hE : E.Ok P) (hr : Rep ρ H w) (st xt ty : TypeId) {s s' x x' : Value} (hs : VR ρ s s') (hx : VR ρ x x') :
    Next.Good P ρ w (valued ((Builtin.append_ #[st, xt] ty #[s', x']).run P w)) (evAppend E H st xt s x) := by
  unfold evAppend
  split
  · rename_i i k hti htk
    obtain ⟨hu, _, _⟩ := hE.ty st i hti
    obtain ⟨hv, _, _⟩ := hE.ty xt k htk
    split
    · rename_i elem d hd1 hd2
      rw [hd1] at hu; rw [hd2] at hv
      cases he : E.ty.get elem with
      | none => simp [Next.Good]
      | some j =>
        simp only
        obtain ⟨_, ⟨ji, hji, hsz, hz, hby⟩, _⟩ := hE.ty elem j he
        split
        · rename_i n new z hsrc hzc
          obtain ⟨zv, hz1, rfl, hz3, hz4⟩ := zeroC_spec hzc
          cases hcond : (Nat.beq (cellsL zv).length j.size && (Nat.ble j.bytes 1024 && Nat.ble 1 j.size)) with
          | false => simp [Next.Good]
          | true =>
            simp only [Bool.and_eq_true] at hcond
            have k1 := Nat.eq_of_beq_eq_true hcond.1
            have k2 := Nat.le_of_ble_eq_true hcond.2.1
            have k3 := Nat.le_of_ble_eq_true hcond.2.2
            simp only [cond_true]
            have hzs : zv.cells.size = j.size := by rw [hz4]; simpa using k1
            obtain ⟨new', a', c', hnew, hnl, rfl, hfirst, hlen⟩ := srcL_good (P := P) hr hx hsrc
            have hf1 := hfirst w (fun _ _ => rfl)
            have hf2 := hfirst w.drew (fun _ _ => rfl)
            rw [← hsz] at hf1 hf2
            split
            · simp only [VR] at hs; subst hs
              cases hn0 : Nat.beq n 0 with
              | true =>
                obtain rfl := Nat.eq_of_beq_eq_true hn0
                refine ⟨.slice none 0 0, by simp [VR], ?_⟩
                have : new' = [] := by simpa using hnl
                subst this
                simp [valued, Builtin.append_, run_underlying hu, run_underlying hv, sizeOf, typeInfo, hji, hlen, hf1]
              | false =>
                have hn0' := Nat.ne_of_beq_eq_false hn0
                simp only [cond_false]
                cases hnb : Nat.ble n 4294967296 with
                | false => simp [Next.Good]
                | true =>
                  have hnb' := Nat.le_of_ble_eq_true hnb
                  simp only [cond_true]
                  have := run_append_big (P := P) (w := w) (ty := ty) (base := none) (m := 0) (c := 0) (old := []) hu hv hji (hz.trans hz1) hlen hf2 (by simp [Builtin.firstCells]) (by omega) (by omega) (by omega)
                  simp only [Nat.zero_add, List.nil_append] at this
                  refine growL_good hr hnew zv.cells hzs (cap_ge w n 0 elem) hnl ?_
                  rw [this]; rfl
            · rename_i a m c
              split
              · rename_i o hsp ho
                simp only [VR] at hs
                rw [hsp] at hs; simp only at hs
                obtain ⟨b, cc, hb, rfl, g1, g2, g3⟩ := hs
                obtain ⟨b', c1, d1, hb', hblk, hc, _⟩ := hr.block ho
                obtain rfl : b' = b := by rw [hb] at hb'; exact (Option.some.inj hb').symm
                have hob := hr.obj _ _ ho
                cases hold : (Nat.beq ((o.cs.drop a.off).take (m * j.size)).length (m * j.size) && Nat.ble (m + n) 4294967296) with
                | false => simp [Next.Good]
                | true =>
                  simp only [Bool.and_eq_true] at hold
                  have o1 := Nat.eq_of_beq_eq_true hold.1
                  have o2 := Nat.le_of_ble_eq_true hold.2
                  simp only [cond_true]
                  have hvo := VRL.take (m * j.size) (VRL.drop a.off hc)
                  have hlo : ((c1.drop a.off).take (m * j.size)).length = m * j.size := by rw [VRL.length hvo]; exact o1
                  have hfo : ∀ cc : Nat, (Builtin.firstCells ji.size m (.slice (some ⟨b', a.off, none⟩) m cc)).run P w.drew = .ok ⟨(c1.drop a.off).take (m * j.size)⟩ w.drew := by
                    intro cc
                    rw [hsz]
                    have hblk' : w.drew.heap[b']? = some (.cells ⟨c1 ++ d1⟩ o.ty (0, 0)) := hblk
                    exact run_firstCells_some (P := P) w.drew j.size m ⟨b', a.off, none⟩ m cc ((c1.drop a.off).take (m * j.size)) hlo (fun q v hq => by
                      rw [addr_add, cell_of hblk']
                      have hjl : q < m * j.size := by have := (List.getElem?_eq_some_iff.1 hq).1; omega
                      rw [List.getElem?_take_of_lt hjl, List.getElem?_drop] at hq
                      rw [List.getElem?_append_left (by have := (List.getElem?_eq_some_iff.1 hq).1; omega)]
                      exact hq)
                  have hgrow : cc < m + n → Next.Good P ρ w (valued ((Builtin.append_ #[st, xt] ty #[.slice (some ⟨b', a.off, none⟩) m cc, .slice a' n c']).run P w)) (growL H ((o.cs.drop a.off).take (m * j.size) ++ new) elem j.size (m + n)) := by
                    intro hlt
                    have := run_append_big (P := P) (w := w) (ty := ty) hu hv hji (hz.trans hz1) hlen hf2 (hfo cc) hlt o2 (by omega)
                    refine growL_good hr (VRL.append hvo hnew) zv.cells hzs (cap_ge w (m + n) cc elem) (by rw [List.length_append, hlo, hnl, Nat.add_mul]) ?_
                    rw [this]; rfl
                  cases hmc : Nat.ble m c with
                  | true =>
                    simp only [cond_true]
                    obtain rfl := g1 (Nat.le_of_ble_eq_true hmc)
                    cases hmn : Nat.ble (m + n) cc with
                    | true => simp [Next.Good]
                    | false =>
                      simp only [cond_false]
                      exact hgrow (by rcases Nat.lt_or_ge cc (m + n) with h | h; exact h; rw [Nat.ble_eq_true_of_le h] at hmn; cases hmn)
                  | false =>
                    have hmc' : ¬ m ≤ c := fun h => by rw [Nat.ble_eq_true_of_le h] at hmc; cases hmc
                    simp only [cond_false]
                    cases o with
                    | cells cs t => simp [Next.Good]
                    | row cs t z' =>
                      simp only
                      cases hrow : (Nat.beq a.off 0 && (Nat.beq cs.length (m * j.size) && (Nat.beq z' j.size && Nat.beq t elem))) with
                      | false => simp [Next.Good]
                      | true =>
                        simp only [Bool.and_eq_true] at hrow
                        have r1 := Nat.eq_of_beq_eq_true hrow.1
                        have r2 := Nat.eq_of_beq_eq_true hrow.2.1
                        have r3 := Nat.eq_of_beq_eq_true hrow.2.2.1
                        have r4 := Nat.eq_of_beq_eq_true hrow.2.2.2
                        simp only [cond_true]
                        subst r3 r4
                        obtain ⟨bb, oo, hbb, hoo, c2, d2, q1, q2, q3⟩ := hob
                        obtain rfl : bb = b' := by rw [hb] at hbb; exact (Option.some.inj hbb).symm
                        rw [hblk] at hoo
                        obtain rfl := Option.some.inj hoo
                        have q4 : (c1 ++ d1).length = (c2 ++ d2).length := by simp only [Obj.cells.injEq] at q2; exact congrArg (fun x : Array Value => x.toList.length) q2.1
                        simp only [List.length_append] at q4
                        have hc1l : c1.length = m * j.size := by rw [VRL.length hc]; exact r2
                        have hold0 : (c1.drop a.off).take (m * j.size) = c1 := by rw [r1]; simp [← hc1l]
                        have hcsl : (cs.drop a.off).take (m * j.size) = cs := by rw [r1]; simp [← r2]
                        have hoff : (⟨bb, a.off, none⟩ : Addr) = ⟨bb, 0, none⟩ := by rw [r1]
                        rcases Nat.lt_or_ge cc (m + n) with hlt | hge
                        · unfold growL
                          have hg := hgrow hlt
                          unfold growL at hg
                          have hnx : (H.drop a.block).next = H.next := rfl
                          rw [hnx]
                          simp only [LO.cs] at hg ⊢
                          cases hcnd : (Nat.blt (H.next + 1) 2147483000 && ((((cs.drop a.off).take (m * j.size) ++ new).all one) && Nat.ble 1 (m + n))) with
                          | false => simp [Next.Good]
                          | true =>
                            rw [hcnd] at hg
                            simp only [cond_true] at hg ⊢
                            obtain ⟨ρ', v', w', p1, p2, p3, p4, p5, p6⟩ := hg
                            refine ⟨ρ', v', w', p1, p2, p3, p4, ?_, p6⟩
                            have hbl : a.block < H.next := (hr.dom _ _ hb).1
                            have hsm := hr.small
                            have hd := Rep.dropped p5 a.block (by omega)
                            have hswap : ∀ q, ((H.drop a.block).new (.row ((cs.drop a.off).take (m * j.size) ++ new) t j.size)).get q = ((H.new (.row ((cs.drop a.off).take (m * j.size) ++ new) t j.size)).drop a.block).get q := by
                              intro q
                              have e1 : ((H.drop a.block).new (.row ((cs.drop a.off).take (m * j.size) ++ new) t j.size)).get q = if q = H.next then _ else (H.drop a.block).get q := Tr.get_set _ _ _ hsm q
                              have e2 : (H.drop a.block).get q = if q = a.block then none else H.get q := Tr.get_set _ _ _ (by omega) q
                              have e3 : ((H.new (.row ((cs.drop a.off).take (m * j.size) ++ new) t j.size)).drop a.block).get q = if q = a.block then none else (H.new (.row ((cs.drop a.off).take (m * j.size) ++ new) t j.size)).get q := Tr.get_set _ _ _ (by omega) q
                              have e4 : (H.new (.row ((cs.drop a.off).take (m * j.size) ++ new) t j.size)).get q = if q = H.next then _ else H.get q := Tr.get_set _ _ _ hsm q
                              rw [e1, e2, e3, e4]
                              by_cases f1 : q = H.next
                              · rw [if_pos f1, if_pos f1, if_neg (by omega)]
                              · rw [if_neg f1, if_neg f1]
                            exact Rep.congr hswap rfl hd
                        · unfold growL
                          have hnx : (H.drop a.block).next = H.next := rfl
                          rw [hnx]
                          simp only [LO.cs]
                          cases hcnd : (Nat.blt (H.next + 1) 2147483000 && ((((cs.drop a.off).take (m * j.size) ++ new).all one) && Nat.ble 1 (m + n))) with
                          | false => simp [Next.Good]
                          | true =>
                            simp only [cond_true]
                            simp only [Bool.and_eq_true, Nat.blt_eq] at hcnd
                            have hcap := g3 hmc' r1
                            have hroom : m * ji.size + new'.length ≤ (c1 ++ d1).length := by
                              rw [hsz, hnl, List.length_append, q4, q3, ← Nat.add_mul]
                              exact Nat.mul_le_mul_right _ (Nat.le_trans hge hcap)
                            have hnone : (new.all one) = true := by
                              have := hcnd.2.1; rw [List.all_append, Bool.and_eq_true] at this; exact this.2
                            have hfit := run_append_fit (P := P) (w := w) (ty := ty) hu hv hji hlen hf1 hblk hge hroom (all_one hnone hnew)
                            have hdl : new'.length ≤ d1.length := by rw [hsz] at hroom; simp only [List.length_append] at hroom; omega
                            have hwr : wrL (c1 ++ d1) (m * ji.size) new' = c1 ++ new' ++ d1.drop new'.length := by
                              rw [hsz, ← hc1l]; exact wrL_end new' c1 d1 hdl
                            rw [hwr] at hfit
                            have hor : OR (ρ.ext H.next bb (ρ.cap a.block)) H.next (.row ((cs.drop a.off).take (m * j.size) ++ new) t j.size) (.cells ⟨c1 ++ new' ++ d1.drop new'.length⟩ t (0, 0)) := by
                              refine ⟨c1 ++ new', d1.drop new'.length, VRL.mono (hr.ext_le _ _) _ _ (by rw [hcsl]; exact VRL.append hc hnew), rfl, ?_⟩
                              simp only [Ren.ext, if_pos, List.length_append, List.length_drop]
                              have : c1.length + new'.length + (d1.length - new'.length) = c1.length + d1.length := by omega
                              rw [this, q4, q3]
                            obtain ⟨h1, h2, h3⟩ := Rep.adopt hr ho hb (by unfold big; exact hcnd.1) hor
                            refine ⟨_, .slice (some ⟨bb, 0, none⟩) (m + n) cc, _, hr.ext_le _ _, h2, ?_, by rw [hoff, hfit]; rfl, h1, h3⟩
                            simp only [VR]
                            exact ⟨bb, cc, by simp [Ren.ext], rfl, fun e => absurd e (by have := Nat.le_of_ble_eq_true hcnd.2.2; omega), hge, fun _ _ => by simpa [Ren.ext] using hcap⟩
              · simp [Next.Good]
            · simp [Next.Good]
        · simp [Next.Good]
    · simp [Next.Good]
  · simp [Next.Good]
end
end Go.Lx
