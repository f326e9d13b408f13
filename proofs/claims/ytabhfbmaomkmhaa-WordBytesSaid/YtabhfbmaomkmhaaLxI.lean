/- Part I: one operation, whichever it is. -/
import Derived.Test.YtabhfbmaomkmhaaLxH
namespace Go.Lx
set_option linter.unusedSimpArgs false
set_option linter.unusedVariables false
section
variable {E : Env} {P : Program} {ρ : Ren} {w : World} {H : Heap} {n : Nat} {t : Tr Value} {a : Act}

noncomputable def evs (t : Tr Value) : List Operand → Option (List Value)
  | [] => some []
  | x :: r => match evx t x, evs t r with
    | some v, some l => some (v :: l)
    | _, _ => none

theorem evs_VR (ht : TR ρ n t a) : ∀ {xs : List Operand} {vs : List Value}, evs t xs = some vs → VRL ρ vs (xs.map a.eval)
  | [], vs, h => by simp only [evs, Option.some.injEq] at h; subst h; simp [VRL]
  | x :: r, vs, h => by
    simp only [evs] at h
    cases h1 : evx t x with
    | none => rw [h1] at h; simp at h
    | some v =>
      cases h2 : evs t r with
      | none => rw [h1, h2] at h; simp at h
      | some l =>
        rw [h1, h2] at h; simp at h; subst h
        simp only [List.map_cons, VRL]
        exact ⟨_, _, evx_VR ht h1, evs_VR ht h2, rfl⟩

noncomputable def evParts (t : Tr Value) : List (Nat × Operand) → Option (List (Nat × Value))
  | [] => some []
  | (i, x) :: r => match evx t x, evParts t r with
    | some v, some l => some ((i, v) :: l)
    | _, _ => none

theorem evParts_PR (ht : TR ρ n t a) : ∀ {xs : List (Nat × Operand)} {vs : List (Nat × Value)}, evParts t xs = some vs → PR ρ vs (xs.map fun p => (p.1, a.eval p.2))
  | [], vs, h => by simp only [evParts, Option.some.injEq] at h; subst h; simp [PR]
  | (i, x) :: r, vs, h => by
    simp only [evParts] at h
    cases h1 : evx t x with
    | none => rw [h1] at h; simp at h
    | some v =>
      cases h2 : evParts t r with
      | none => rw [h1, h2] at h; simp at h
      | some l =>
        rw [h1, h2] at h; simp at h; subst h
        simp only [List.map_cons, PR]
        exact ⟨_, _, evx_VR ht h1, evParts_PR ht h2, rfl⟩

/-- an operand that may be missing: whether it can be read, and what it holds -/
noncomputable def evo (t : Tr Value) : Option Operand → Option (Option Value)
  | none => some none
  | some x => match evx t x with
    | some v => some (some v)
    | none => none

theorem evo_VRO (ht : TR ρ n t a) {x : Option Operand} {v : Option Value} (h : evo t x = some v) : VRO ρ v (x.map a.eval) := by
  cases x with
  | none => simp only [evo, Option.some.injEq] at h; subst h; simp [VRO]
  | some x =>
    simp only [evo] at h
    cases h1 : evx t x with
    | none => rw [h1] at h; simp at h
    | some u => rw [h1] at h; simp at h; subst h; simp only [VRO, Option.map_some]; exact ⟨_, evx_VR ht h1, rfl⟩

noncomputable def evCall (E : Env) (f : Value) (args : List Value) : ER :=
  match f with
  | .func (.func g) ⟨xs⟩ ⟨ys⟩ => match E.fn.get g with
    | some _ => .call g (xs ++ args ++ ys)
    | none => .no
  | _ => .no

noncomputable def evOp (E : Env) (H : Heap) (t : Tr Value) (o : Oper) : ER :=
  match o.op with
  | .move x => match evx t x with | some v => .val v | none => .no
  | .assign x => match evx t x with | some v => .val v | none => .no
  | .pick c x y => match evx t c, evx t x, evx t y with
    | some (.bool q), some u, some v => .tst q (.val u) (.val v)
    | _, _, _ => .no
  | .alloc e => evAlloc E H e
  | .box e x => match evx t x with | some v => evBox H e v | none => .no
  | .build ty ps => match evParts t ps.toList with | some l => evBuild E ty l | none => .no
  | .buildSlice ty len ps => match evParts t ps.toList with | some l => evBuildSlice E H ty len l | none => .no
  | .load ty p => match evx t p with | some v => evLoad E H ty v | none => .no
  | .store ty p x => match evx t p, evx t x with | some u, some v => evStore E H ty u v | _, _ => .no
  | .nilCheck x => match evx t x with
    | some (.pointer (some q)) => .val (.pointer (some q))
    | some (.func (.func g) xs ys) => .val (.func (.func g) xs ys)
    | _ => .no
  | .binOp op ty x y _ => match evx t x, evx t y with | some u, some v => evBin E op ty u v | _, _ => .no
  | .unOp op _ x => match evx t x with | some v => evUn op v | none => .no
  | .convert s d x => match evx t x with | some v => evConv E H s d v | none => .no
  | .makeFunc fn xs ys => match evs t xs.toList, evs t ys.toList with | some l, some r => .val (.func fn ⟨l⟩ ⟨r⟩) | _, _ => .no
  | .slice ty x lo hi mx => match evx t x, evo t lo, evo t hi, evo t mx with | some v, some l, some h, some m => evSlice E ty v l h m | _, _, _, _ => .no
  | .fieldAddr s x f => match evx t x with | some v => evField E s v f | none => .no
  | .field s x f => match evx t x with | some v => evFieldV E s v f | none => .no
  | .indexAddr ty x ix => match evx t x, evx t ix with | some u, some v => evIndexA E ty u v | _, _ => .no
  | .index ty x ix => match evx t x, evx t ix with | some u, some v => evIndexV E ty u v | _, _ => .no
  | .extract x k => match evx t x with | some v => evExtract v k | none => .no
  | .call c => match c.callee with
    | .value f => match evx t f, evs t c.args.toList with | some u, some l => evCall E u l | _, _ => .no
    | .builtin .len => match c.args.toList, c.argTypes.toList with
      | [x], [ty] => match evx t x with | some v => evLen E ty v | none => .no
      | _, _ => .no
    | .builtin .append => match c.args.toList, c.argTypes.toList with
      | [x, y], [ty, ty'] => match evx t x, evx t y with | some u, some v => evAppend E H ty ty' u v | _, _ => .no
      | _, _ => .no
    | _ => .no
  | _ => .no

theorem run_v (s : Sem Value) : (do pure (Next.value (← s)) : Sem Next).run P w = valued (s.run P w) := by
  simp only [Sem.run_bind, valued, Sem.run_pure]
theorem run_u (s : Sem Unit) : (do s; pure Next.skip : Sem Next).run P w = (s.run P w).andThen fun _ w => .ok .skip w := by
  simp only [Sem.run_bind, Sem.run_pure]

theorem evCall_good (hE : E.Ok P) {f f' : Value} {args args' : List Value} (hf : VR ρ f f') (ha : VRL ρ args args') :
    Next.Good P ρ w ((do let d ← Deferred.ofValue f' ⟨args'⟩; invoke d.target d.args : Sem Next).run P w) (evCall E f args) := by
  unfold evCall
  split
  · rename_i g xs ys
    cases hg : E.fn.get g with
    | none => simp [Next.Good]
    | some fn =>
      obtain ⟨h1, h2, h3⟩ := hE.fn g fn hg
      simp only [VR] at hf
      obtain ⟨xs', ys', hx, hy, rfl⟩ := hf
      refine ⟨xs' ++ args' ++ ys', VRL.append (VRL.append hx ha) hy, ?_⟩
      have hb : fn.body.isNone = false := by cases hbb : fn.body <;> simp_all
      have hm : ((⟨xs'⟩ : Array Value) ++ ⟨args'⟩ ++ ⟨ys'⟩) = ⟨xs' ++ args' ++ ys'⟩ := by apply Array.ext'; simp
      simp only [Deferred.ofValue, Sem.run_bind, Sem.run_pure, Result.andThen_ok, invoke, callFunc, run_program, h1, h3, hb, hm]
      simp
  · simp [Next.Good]

theorem evOp_good (hE : E.Ok P) (hr : Rep ρ H w) (ht : TR ρ n t a) (o : Oper) :
    Next.Good P ρ w ((execOp a.eval o).run P w) (evOp E H t o) := by
  unfold evOp execOp
  cases o.op with
  | move x =>
    simp only
    cases h : evx t x with
    | none => simp [Next.Good]
    | some v => exact ⟨_, evx_VR ht h, rfl⟩
  | assign x =>
    simp only
    cases h : evx t x with
    | none => simp [Next.Good]
    | some v => exact ⟨_, evx_VR ht h, rfl⟩
  | pick c x y =>
    simp only
    split
    · rename_i q u v h1 h2 h3
      have hc := evx_VR ht h1
      simp only [VR] at hc
      simp only [Next.Good]
      refine ⟨fun e => ⟨_, evx_VR ht h2, ?_⟩, fun e => ⟨_, evx_VR ht h3, ?_⟩⟩
      · subst e; simp [hc, asBool]
      · subst e; simp [hc, asBool]
    · simp [Next.Good]
  | alloc e => simp only; rw [run_v]; exact evAlloc_good hE hr e
  | box e x =>
    simp only
    cases h : evx t x with
    | none => simp [Next.Good]
    | some v => simp only; rw [run_v]; exact evBox_good hr e (evx_VR ht h)
  | build ty ps =>
    simp only
    cases h : evParts t ps.toList with
    | none => simp [Next.Good]
    | some l =>
      simp only; rw [run_v]
      have e : (ps.map fun x => match x with | (i, x) => (i, a.eval x)) = ⟨ps.toList.map fun p => (p.1, a.eval p.2)⟩ := by apply Array.ext'; simp
      rw [e]; exact evBuild_good hE ty (evParts_PR ht h)
  | buildSlice ty len ps =>
    simp only
    cases h : evParts t ps.toList with
    | none => simp [Next.Good]
    | some l =>
      simp only; rw [run_v]
      have e : (ps.map fun x => match x with | (i, x) => (i, a.eval x)) = ⟨ps.toList.map fun p => (p.1, a.eval p.2)⟩ := by apply Array.ext'; simp
      rw [e]; exact evBuildSlice_good hE hr ty len (evParts_PR ht h)
  | load ty p =>
    simp only
    cases h : evx t p with
    | none => simp [Next.Good]
    | some v => simp only; rw [run_v]; exact evLoad_good hE hr ty (evx_VR ht h)
  | store ty p x =>
    simp only
    split
    · rename_i u v h1 h2; rw [run_u]; exact evStore_good hE hr ty (evx_VR ht h1) (evx_VR ht h2)
    · simp [Next.Good]
  | nilCheck x =>
    simp only
    cases h : evx t x with
    | none => simp [Next.Good]
    | some v =>
      have hx := evx_VR ht h
      have hx0 := hx
      cases v with
      | pointer q => cases q with
        | none => simp [Next.Good]
        | some q =>
          simp only [VR] at hx
          obtain ⟨_, b, _, e⟩ := hx
          refine ⟨a.eval x, hx0, ?_⟩
          rw [e]; rfl
      | func fn xs ys => cases fn with
        | func g =>
          obtain ⟨xs⟩ := xs; obtain ⟨ys⟩ := ys
          simp only [VR] at hx
          obtain ⟨xs', ys', _, _, e⟩ := hx
          refine ⟨a.eval x, hx0, ?_⟩
          rw [e]; rfl
        | _ => simp [Next.Good]
      | _ => simp [Next.Good]
  | binOp op ty x y ty' =>
    simp only
    split
    · rename_i u v h1 h2; rw [run_v]; exact evBin_good hE op ty u v _ _ (evx_VR ht h1) (evx_VR ht h2) x y
    · simp [Next.Good]
  | unOp op ty x =>
    simp only
    cases h : evx t x with
    | none => simp [Next.Good]
    | some v => simp only; rw [run_v]; exact evUn_good op (evx_VR ht h)
  | convert s d x =>
    simp only
    cases h : evx t x with
    | none => simp [Next.Good]
    | some v => simp only; rw [run_v]; exact evConv_good hE hr s d (evx_VR ht h)
  | makeFunc fn xs ys =>
    simp only
    split
    · rename_i l r h1 h2
      rw [run_v]
      refine ⟨_, by simp only [VR]; exact ⟨_, _, evs_VR ht h1, evs_VR ht h2, rfl⟩, ?_⟩
      have e1 : xs.map a.eval = ⟨xs.toList.map a.eval⟩ := by apply Array.ext'; simp
      have e2 : ys.map a.eval = ⟨ys.toList.map a.eval⟩ := by apply Array.ext'; simp
      rw [e1, e2]; rfl
    · simp [Next.Good]
  | slice ty x lo hi mx =>
    simp only
    split
    · rename_i v l h m h1 h2 h3 h4; rw [run_v]; exact evSlice_good hE ty (evx_VR ht h1) (evo_VRO ht h2) (evo_VRO ht h3) (evo_VRO ht h4)
    · simp [Next.Good]
  | fieldAddr s x f =>
    simp only
    cases h : evx t x with
    | none => simp [Next.Good]
    | some v => simp only; rw [run_v]; exact evField_good hE s f (evx_VR ht h)
  | field s x f =>
    simp only
    cases h : evx t x with
    | none => simp [Next.Good]
    | some v => simp only; rw [run_v]; exact evFieldV_good hE s f (evx_VR ht h)
  | indexAddr ty x ix =>
    simp only
    split
    · rename_i u v h1 h2; rw [run_v]; exact evIndexA_good hE ty (evx_VR ht h1) (evx_VR ht h2)
    · simp [Next.Good]
  | index ty x ix =>
    simp only
    split
    · rename_i u v h1 h2; rw [run_v]; exact evIndexV_good hE ty (evx_VR ht h1) (evx_VR ht h2)
    · simp [Next.Good]
  | extract x k =>
    simp only
    cases h : evx t x with
    | none => simp [Next.Good]
    | some v => simp only; rw [run_v]; exact evExtract_good k (evx_VR ht h)
  | call c =>
    obtain ⟨cal, args, tys⟩ := c
    simp only
    split
    · rename_i f
      split
      · rename_i u l h1 h2
        have e1 : args.map a.eval = ⟨args.toList.map a.eval⟩ := by apply Array.ext'; simp
        simp only [resolve, e1]
        exact evCall_good hE (evx_VR ht h1) (evs_VR ht h2)
      · simp [Next.Good]
    · split
      · rename_i x ty hx hty
        cases h : evx t x with
        | none => simp [Next.Good]
        | some v =>
          simp only
          have e1 : args = #[x] := by apply Array.ext'; simpa using hx
          have e2 : tys = #[ty] := by apply Array.ext'; simpa using hty
          subst e1 e2
          simp only [resolve, Sem.run_bind, Sem.run_pure, Result.andThen_ok, invoke, builtin]
          have := evLen_good (w := w) hE ty o.type (evx_VR ht h)
          simpa [valued] using this
      · simp [Next.Good]
    · split
      · rename_i x y ty ty' hx hty
        split
        · rename_i u v h1 h2
          have e1 : args = #[x, y] := by apply Array.ext'; simpa using hx
          have e2 : tys = #[ty, ty'] := by apply Array.ext'; simpa using hty
          subst e1 e2
          simp only [resolve, Sem.run_bind, Sem.run_pure, Result.andThen_ok, invoke, builtin]
          have := evAppend_good (w := w) hE hr ty ty' o.type (evx_VR ht h1) (evx_VR ht h2)
          simpa [valued] using this
        · simp [Next.Good]
      · simp [Next.Good]
    · simp [Next.Good]
  | _ => simp [Next.Good]

/-! ### operations that yield one value in every world that has kept what there was -/
noncomputable def isFree : Op → Bool
  | .move _ | .assign _ | .pick .. | .load .. | .extract .. => true
  | _ => false

noncomputable def UGood (ρ : Ren) (CW : World → Prop) (r : World → Result Next) : ER → Prop
  | .val v => ∃ v', VR ρ v v' ∧ ∀ w, CW w → r w = .ok (.value v') w
  | .tst b x y => (b = true → UGood ρ CW r x) ∧ (b = false → UGood ρ CW r y)
  | _ => True

theorem evLoad_same (hE : E.Ok P) (hr : Rep ρ H w) (t : TypeId) {p p' : Value} (hp : VR ρ p p') :
    UGood ρ (fun W => ∀ k : Nat, k < w.heap.size → W.heap[k]? = w.heap[k]?) (fun W => valued ((Instr.loadAt t p').run P W)) (evLoad E H t p) := by
  unfold evLoad
  split
  · rename_i a
    simp only [VR] at hp
    obtain ⟨hs, b, hb, rfl⟩ := hp
    split
    · rename_i o i ho ht
      obtain ⟨b', c', d', hb', hblk, hc, _⟩ := hr.block ho
      obtain rfl : b' = b := by rw [hb] at hb'; exact (Option.some.inj hb').symm
      have hbs : b' < w.heap.size := (hr.dom _ _ hb).2
      cases hag : isAggD i.desc with
      | true =>
        simp only [cond_true]
        cases hl : Nat.beq ((o.cs.drop a.off).take i.size).length i.size with
        | false => simp [UGood]
        | true =>
          simp only [cond_true]
          have hl' := Nat.eq_of_beq_eq_true hl
          have hcl := VRL.length hc
          refine ⟨_, VR_agg (VRL.take i.size (VRL.drop a.off hc)), fun W hW => ?_⟩
          have hblk' : W.heap[b']? = some (.cells ⟨c' ++ d'⟩ o.ty (0, 0)) := by rw [hW b' hbs]; exact hblk
          have hload : (loadCells ⟨b', a.off, none⟩ i.size).run P W = .ok ⟨(c'.drop a.off).take i.size⟩ W := by
            have hl2 : ((c'.drop a.off).take i.size).length = i.size := by
              simp only [List.length_take, List.length_drop] at hl' ⊢; omega
            have := run_loadCells_list (P := P) W ⟨b', a.off, none⟩ ((c'.drop a.off).take i.size) (fun j v hj => by
              rw [addr_add, cell_of hblk']
              have hjl : j < i.size := by
                have := (List.getElem?_eq_some_iff.1 hj).1; omega
              rw [List.getElem?_take_of_lt hjl, List.getElem?_drop] at hj
              rw [List.getElem?_append_left (by have := (List.getElem?_eq_some_iff.1 hj).1; omega)]
              exact hj)
            rw [hl2] at this
            exact this
          simp [valued, Instr.loadAt, Instr.sureAddr, loadVar, run_isAgg hE ht, hag, run_sizeOf hE ht, hload]
      | false =>
        simp only [cond_false]
        cases hv : o.cs[a.off]? with
        | none => simp [UGood]
        | some v =>
          obtain ⟨v', h1, h2⟩ := VRL.get hc a.off v hv
          refine ⟨v', h2, fun W hW => ?_⟩
          have hblk' : W.heap[b']? = some (.cells ⟨c' ++ d'⟩ o.ty (0, 0)) := by rw [hW b' hbs]; exact hblk
          have hcell : W.cell? ⟨b', a.off, none⟩ = some v' := by
            rw [cell_of hblk', List.getElem?_append_left (List.getElem?_eq_some_iff.1 h1).1]; exact h1
          simp [valued, Instr.loadAt, Instr.sureAddr, loadVar, run_isAgg hE ht, hag, run_load, hcell]
    · simp [UGood]
  · simp [UGood]

theorem evOp_free (hE : E.Ok P) (hr : Rep ρ H w) (ht : TR ρ n t a) (o : Oper) (hfree : isFree o.op = true) :
    UGood ρ (fun W => ∀ k : Nat, k < w.heap.size → W.heap[k]? = w.heap[k]?) (fun W => (execOp a.eval o).run P W) (evOp E H t o) := by
  unfold evOp execOp
  cases ho : o.op with
  | move x =>
    simp only
    cases h : evx t x with
    | none => simp [UGood]
    | some v => exact ⟨_, evx_VR ht h, fun _ _ => rfl⟩
  | assign x =>
    simp only
    cases h : evx t x with
    | none => simp [UGood]
    | some v => exact ⟨_, evx_VR ht h, fun _ _ => rfl⟩
  | pick c x y =>
    simp only
    split
    · rename_i q u v h1 h2 h3
      have hc := evx_VR ht h1
      simp only [VR] at hc
      simp only [UGood]
      refine ⟨fun e => ⟨_, evx_VR ht h2, fun W _ => ?_⟩, fun e => ⟨_, evx_VR ht h3, fun W _ => ?_⟩⟩
      · subst e; simp [hc, asBool]
      · subst e; simp [hc, asBool]
    · simp [UGood]
  | load ty p =>
    simp only
    cases h : evx t p with
    | none => simp [UGood]
    | some v =>
      simp only [run_v]
      exact evLoad_same hE hr ty (evx_VR ht h)
  | extract x k =>
    simp only
    cases h : evx t x with
    | none => simp [UGood]
    | some v =>
      simp only [run_v]
      have hx := evx_VR ht h
      unfold evExtract
      split
      · rename_i vs
        simp only [VR] at hx
        obtain ⟨vs', h1, e⟩ := hx
        cases hv : vs[k]? with
        | none => simp [UGood]
        | some v =>
          obtain ⟨v', h2, h3⟩ := VRL.get h1 k v hv
          exact ⟨v', h3, fun W _ => by rw [e]; simp [valued, Instr.extract, h2]⟩
      · simp [UGood]
  | _ => rw [ho] at hfree; simp [isFree] at hfree
end
end Go.Lx
