/- Part G: slice literals, slices of slices and texts, len, append. -/
import Derived.Test.YtofimkcfenemlaaLyF
import Derived.Laws.AppendOwn
namespace Go.Ly
set_option linter.unusedSimpArgs false
set_option linter.unusedVariables false
section
variable {E : Env} {P : Program} {ρ : Ren} {w : World} {H : Heap}

/-! ### slice literals -/
noncomputable def newRowL (H : Heap) (c : List Value) (t : TypeId) (n : Nat) : ER :=
  bif Nat.blt (H.next + 1) 2147483000 && (c.all one && Nat.blt n 18446744073709551616) then .mem (.slice (some ⟨H.next, 0, none⟩) n n) (H.new (.cells c t)) else .no

theorem newRowL_good (hr : Rep ρ H w) {c c' : List Value} (t : TypeId) (n : Nat) (hc : VRL ρ c c') {r : Result Next}
    (hres : r = .ok (.value (.slice (some ⟨w.heap.size, 0, none⟩) n n)) (w.alloc (.cells ⟨c'⟩ t))) : Next.Good P ρ w r (newRowL H c t n) := by
  unfold newRowL
  cases hcond : (Nat.blt (H.next + 1) 2147483000 && (c.all one && Nat.blt n 18446744073709551616)) with
  | false => simp [Next.Good]
  | true =>
    simp only [cond_true]
    simp only [Bool.and_eq_true, Nat.blt_eq] at hcond
    obtain ⟨h1, h2, h3⟩ := hr.new (o := .cells c t) (o' := .cells ⟨c'⟩ t (0, 0)) (by unfold big; exact hcond.1) 0 0 rfl ⟨by simp [Ren.ext], c', VRL.mono (hr.ext_le _ _ _) _ _ hc, rfl⟩
    refine ⟨_, _, _, hr.ext_le _ _ _, h2, ?_, hres, h1, h3⟩
    simp only [VR]
    exact ⟨_, n, rfl, Nat.le_refl _, fun _ => rfl, fun _ => ⟨w.heap.size, by simp [Ren.ext], by simp [Ren.at, Ren.ext], fun e => absurd e (by have := hcond.2.2; unfold capU; omega)⟩⟩

noncomputable def seqV : Nat → List (Nat × Value) → Option (List Value)
  | _, [] => some []
  | k, (i, v) :: r => bif Nat.beq i k && one v then (match seqV (k + 1) r with | some l => some (v :: l) | none => none) else none

noncomputable def zerosL (n : Nat) (z : List Value) : List Value := (List.range n).map fun i => (z[i % z.length]?).getD default

theorem cellsL_one {v : Value} (h : one v = true) : cellsL v = [v] := by
  cases v <;> first | rfl | (simp [one] at h)

theorem fill_seq : ∀ (parts : List (Nat × Value)) (k : Nat) (vs c : List Value), seqV k parts = some vs → c.length = k + parts.length →
    fillL (fun i => some (i * 1, 1)) c parts = some (c.take k ++ vs)
  | [], k, vs, c, h, hl => by
    simp only [seqV, Option.some.injEq] at h; subst h
    simp only [fillL, List.append_nil, Option.some.injEq]
    rw [List.take_of_length_le (by simp at hl; omega)]
  | (i, v) :: r, k, vs, c, h, hl => by
    simp only [seqV] at h
    cases hc : (Nat.beq i k && one v) with
    | false => rw [hc] at h; simp at h
    | true =>
      rw [hc] at h; simp only [cond_true] at h
      simp only [Bool.and_eq_true] at hc
      obtain rfl := Nat.eq_of_beq_eq_true hc.1
      cases hs : seqV (i + 1) r with
      | none => rw [hs] at h; simp at h
      | some l =>
        rw [hs] at h; simp only [Option.some.injEq] at h; subst h
        simp only [List.length_cons] at hl
        have hlt : i < c.length := by omega
        simp only [fillL, cellsL_one hc.2]
        have hcond : (Nat.beq [v].length 1 && Nat.ble (i * 1 + [v].length) c.length && [v].all one) = true := by
          simp only [Bool.and_eq_true]
          refine ⟨⟨rfl, Nat.ble_eq_true_of_le (by simp; omega)⟩, by simp [hc.2]⟩
        rw [hcond]
        simp only [cond_true, wrL]
        rw [Nat.mul_one, fill_seq r (i + 1) l (c.set i v) hs (by simp; omega)]
        congr 1
        rw [List.take_succ_eq_append_getElem (by simpa using hlt)]
        simp [List.take_set_of_le]

noncomputable def evBuildSlice (E : Env) (H : Heap) (t : TypeId) (len : Nat) (parts : List (Nat × Value)) : ER :=
  match E.ty.get t with
  | none => .no
  | some i =>
    match i.desc with
    | .slice elem =>
      match E.ty.get elem with
      | none => .no
      | some j =>
        bif Nat.ble (len * j.size) 16777216 then
          (match zeroC j with
          | none => .no
          | some z =>
            bif Nat.beq z.length 0 then .no else
            match bif Nat.beq j.size 1 then seqV 0 parts else none with
            | some vs => bif Nat.beq vs.length len then newRowL H vs elem len else .no
            | none => match fillL (fun k => some (k * j.size, j.size)) (zerosL (len * j.size) z) parts with
              | some c => newRowL H c elem len
              | none => .no)
        else .no
    | _ => .no

theorem seqV_length : ∀ (parts : List (Nat × Value)) (k : Nat) (vs : List Value), seqV k parts = some vs → vs.length = parts.length
  | [], k, vs, h => by simp only [seqV, Option.some.injEq] at h; subst h; rfl
  | (i, v) :: r, k, vs, h => by
    simp only [seqV] at h
    cases hc : (Nat.beq i k && one v) with
    | false => rw [hc] at h; simp at h
    | true =>
      rw [hc] at h; simp only [cond_true] at h
      cases hs : seqV (k + 1) r with
      | none => rw [hs] at h; simp at h
      | some l => rw [hs] at h; simp only [Option.some.injEq] at h; subst h; simp [seqV_length r (k + 1) l hs]

theorem zerosL_VR {z : List Value} (hz : z.all cst = true) (h0 : z.length ≠ 0) (n : Nat) : VRL ρ (zerosL n z) (zerosL n z) := by
  refine VRL_cst ?_
  unfold zerosL
  rw [List.all_eq_true]
  intro x hx
  obtain ⟨i, _, rfl⟩ := List.mem_map.1 hx
  have hlt : i % z.length < z.length := Nat.mod_lt _ (by omega)
  rw [List.getElem?_eq_getElem hlt]
  simp only [Option.getD_some]
  exact (List.all_eq_true.1 hz) _ (List.getElem_mem hlt)

theorem evBuildSlice_good (hE : E.Ok P) (hr : Rep ρ H w) (t : TypeId) (len : Nat) {parts parts' : List (Nat × Value)} (hp : PR ρ parts parts') :
    Next.Good P ρ w (valued ((Instr.buildSlice t len ⟨parts'⟩).run P w)) (evBuildSlice E H t len parts) := by
  unfold evBuildSlice
  cases ht : E.ty.get t with
  | none => simp [Next.Good]
  | some i =>
    simp only
    obtain ⟨hu, _, _⟩ := hE.ty t i ht
    split
    · rename_i elem hd
      rw [hd] at hu
      cases he : E.ty.get elem with
      | none => simp [Next.Good]
      | some j =>
        simp only
        cases hb : Nat.ble (len * j.size) 16777216 with
        | false => simp [Next.Good]
        | true =>
          simp only [cond_true]
          have hb' := Nat.le_of_ble_eq_true hb
          cases hz : zeroC j with
          | none => simp [Next.Good]
          | some z =>
            simp only
            obtain ⟨zv, h1, rfl, h3, h4⟩ := zeroC_spec hz
            cases hz0 : Nat.beq (cellsL zv).length 0 with
            | true => simp [Next.Good]
            | false =>
              simp only [cond_false]
              have hz0' : (cellsL zv).length ≠ 0 := Nat.ne_of_beq_eq_false hz0
              have hzeros : ∀ r', Instr.fill (fun k => some (k * j.size, j.size)) ⟨zerosL (len * j.size) (cellsL zv)⟩ parts' = some ⟨r'⟩ →
                  valued ((Instr.buildSlice t len ⟨parts'⟩).run P w) = .ok (.value (.slice (some ⟨w.heap.size, 0, none⟩) len len)) (w.alloc (.cells ⟨r'⟩ elem)) := by
                intro r' hf
                have hnot : ¬ (len * j.size > 2 ^ 24) := by omega
                by_cases hn : len * j.size = 0
                · have hf' : Instr.fill (fun k => some (k * j.size, j.size)) #[] parts' = some ⟨r'⟩ := by
                    rw [hn] at hf; exact hf
                  simp only [valued, Instr.buildSlice, Sem.run_bind, run_underlying hu, Result.andThen_ok, run_sizeOf hE he, if_neg hnot, if_pos hn, Sem.run_pure]
                  have hz1 : ((Array.range (len * j.size)).map fun x => (#[] : Array Value)[x % (#[] : Array Value).size]!) = #[] := by rw [hn]; simp
                  rw [hz1, hf']
                  simp [newRow]
                · have hz1 : ((Array.range (len * j.size)).map fun x => zv.cells[x % zv.cells.size]!) = ⟨zerosL (len * j.size) (cellsL zv)⟩ := by
                    rw [h4]
                    apply Array.ext'
                    simp only [zerosL, Array.toList_map, Array.toList_range]
                    apply List.map_congr_left
                    intro x _
                    simp [getElem!_def]
                    rfl
                  simp only [valued, Instr.buildSlice, Sem.run_bind, run_underlying hu, Result.andThen_ok, run_sizeOf hE he, if_neg hnot, if_neg hn, run_zeroValue hE he h1, Sem.run_pure, hz1, hf]
                  simp [newRow]
              split
              · rename_i vs hvs
                cases hl : Nat.beq vs.length len with
                | false => simp [Next.Good]
                | true =>
                  simp only [cond_true]
                  obtain rfl := Nat.eq_of_beq_eq_true hl
                  cases hs1 : Nat.beq j.size 1 with
                  | false => rw [hs1] at hvs; simp at hvs
                  | true =>
                    rw [hs1] at hvs; simp only [cond_true] at hvs
                    have hs1' := Nat.eq_of_beq_eq_true hs1
                    have hfl := fill_seq parts 0 vs (zerosL (vs.length * j.size) (cellsL zv)) hvs (by simp [zerosL, hs1', seqV_length _ _ _ hvs])
                    simp only [List.take_zero, List.nil_append] at hfl
                    obtain ⟨r', hr1, hr2⟩ := fill_good _ _ _ _ _ _ hp (zerosL_VR h3 hz0' _) hfl
                    refine newRowL_good hr elem vs.length hr1 (hzeros r' ?_)
                    rw [← hr2, hs1']
              · cases hf : fillL (fun k => some (k * j.size, j.size)) (zerosL (len * j.size) (cellsL zv)) parts with
                | none => simp [Next.Good]
                | some c =>
                  obtain ⟨r', hr1, hr2⟩ := fill_good _ _ _ _ _ _ hp (zerosL_VR h3 hz0' _) hf
                  exact newRowL_good hr elem len hr1 (hzeros r' hr2)
    · simp [Next.Good]

/-! ### len -/
noncomputable def evLen (E : Env) (t : TypeId) (x : Value) : ER :=
  match E.ty.get t with
  | none => .no
  | some i =>
    match i.desc, x with
    | .string, .string s => .val (.int .i64 s.size)
    | .slice _, .slice _ n _ => .val (.int .i64 n)
    | .array n _, _ => .val (.int .i64 n)
    | .pointer arr, _ => match E.ty.get arr with
      | some j => match j.desc with | .array n _ => .val (.int .i64 n) | _ => .no
      | none => .no
    | _, _ => .no

theorem evLen_good (hE : E.Ok P) (t ty : TypeId) {x x' : Value} (hx : VR ρ x x') :
    Next.Good P ρ w (valued ((Builtin.len_ #[t] ty #[x']).run P w)) (evLen E t x) := by
  unfold evLen
  cases ht : E.ty.get t with
  | none => simp [Next.Good]
  | some i =>
    obtain ⟨hu, _, _⟩ := hE.ty t i ht
    simp only
    split
    · rename_i s hd; rw [hd] at hu; simp only [VR] at hx; subst hx
      exact ⟨_, VR_int, by simp [valued, Builtin.len_, run_underlying hu, goInt]⟩
    · rename_i e a n c hd; rw [hd] at hu
      obtain ⟨a', c', rfl⟩ := VR_slice_shape hx
      exact ⟨_, VR_int, by simp [valued, Builtin.len_, run_underlying hu, goInt]⟩
    · rename_i n e hd; rw [hd] at hu
      exact ⟨_, VR_int, by simp [valued, Builtin.len_, run_underlying hu, goInt]⟩
    · rename_i arr hd; rw [hd] at hu
      cases ha : E.ty.get arr with
      | none => simp [Next.Good]
      | some j =>
        obtain ⟨hv, _, _⟩ := hE.ty arr j ha
        simp only
        split
        · rename_i n e hd2; rw [hd2] at hv
          exact ⟨_, VR_int, by simp [valued, Builtin.len_, run_underlying hu, run_underlying hv, goInt]⟩
        · simp [Next.Good]
    · simp [Next.Good]
end
end Go.Ly
