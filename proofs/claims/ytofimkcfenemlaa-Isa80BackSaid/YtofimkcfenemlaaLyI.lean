/- Part I: one operation, whichever it is. -/
import Derived.Test.YtofimkcfenemlaaLyH
import Derived.Laws.MakeOwn
namespace Go.Ly
set_option linter.unusedSimpArgs false
set_option linter.unusedVariables false
section
variable {E : Env} {P : Program} {ρ : Ren} {w : World} {H : Heap} {n : Nat} {t : Tr Value} {a : Act}

noncomputable def evs (t : Tr Value) : List Operand → Option (List Value)
  | [] => some []
  | x :: r => match evx t x, evs t r with
    | some v, some l => some (v :: l)
    | _, _ => none

theorem evs_VR (ht : TR ρ n t a) : ∀ {xs : List Operand} {vs : List Value}, evs t xs = some vs → VRL ρ vs (xs.map a.eval)
  | [], vs, h => by simp only [evs, Option.some.injEq] at h; subst h; simp [VRL]
  | x :: r, vs, h => by
    simp only [evs] at h
    cases h1 : evx t x with
    | none => rw [h1] at h; simp at h
    | some v =>
      cases h2 : evs t r with
      | none => rw [h1, h2] at h; simp at h
      | some l =>
        rw [h1, h2] at h; simp at h; subst h
        simp only [List.map_cons, VRL]
        exact ⟨_, _, evx_VR ht h1, evs_VR ht h2, rfl⟩

noncomputable def evParts (t : Tr Value) : List (Nat × Operand) → Option (List (Nat × Value))
  | [] => some []
  | (i, x) :: r => match evx t x, evParts t r with
    | some v, some l => some ((i, v) :: l)
    | _, _ => none

theorem evParts_PR (ht : TR ρ n t a) : ∀ {xs : List (Nat × Operand)} {vs : List (Nat × Value)}, evParts t xs = some vs → PR ρ vs (xs.map fun p => (p.1, a.eval p.2))
  | [], vs, h => by simp only [evParts, Option.some.injEq] at h; subst h; simp [PR]
  | (i, x) :: r, vs, h => by
    simp only [evParts] at h
    cases h1 : evx t x with
    | none => rw [h1] at h; simp at h
    | some v =>
      cases h2 : evParts t r with
      | none => rw [h1, h2] at h; simp at h
      | some l =>
        rw [h1, h2] at h; simp at h; subst h
        simp only [List.map_cons, PR]
        exact ⟨_, _, evx_VR ht h1, evParts_PR ht h2, rfl⟩

/-- an operand that may be missing: whether it can be read, and what it holds -/
noncomputable def evo (t : Tr Value) : Option Operand → Option (Option Value)
  | none => some none
  | some x => match evx t x with
    | some v => some (some v)
    | none => none

theorem evo_VRO (ht : TR ρ n t a) {x : Option Operand} {v : Option Value} (h : evo t x = some v) : VRO ρ v (x.map a.eval) := by
  cases x with
  | none => simp only [evo, Option.some.injEq] at h; subst h; simp [VRO]
  | some x =>
    simp only [evo] at h
    cases h1 : evx t x with
    | none => rw [h1] at h; simp at h
    | some u => rw [h1] at h; simp at h; subst h; simp only [VRO, Option.map_some]; exact ⟨_, evx_VR ht h1, rfl⟩

noncomputable def evCall (E : Env) (f : Value) (args : List Value) : ER :=
  match f with
  | .func (.func g) ⟨xs⟩ ⟨ys⟩ => match E.fn.get g with
    | some _ => .call g (xs ++ args ++ ys)
    | none => .no
  | _ => .no

/-! ### make, min, max -/
noncomputable def evMake (E : Env) (H : Heap) (t : TypeId) (lv cv : Value) : ER :=
  match E.ty.get t, lv, cv with
  | some i, .int _ l, .int _ c =>
    match i.desc with
    | .slice elem =>
      match E.ty.get elem with
      | none => .no
      | some j =>
        match zeroC j with
        | none => .no
        | some z =>
          bif Nat.beq z.length j.size && (Nat.ble j.bytes 1024 && (Nat.ble 1 j.size && Nat.blt (H.next + 1) 2147483000)) then
            .tst (decide (0 ≤ l) && (decide (l ≤ c) && decide (c ≤ 4294967296)))
              (.mem (.slice (some ⟨H.next, 0, spOf j.size⟩) l.toNat 18446744073709551616) (H.new (.fn j.size (fun _ q => (z[q]?).getD undef) l.toNat elem))) .no
          else .no
    | _ => .no
  | _, _, _ => .no

theorem cst_one {v : Value} (h : cst v = true) : one v = true := by cases v <;> simp_all [cst, one]

theorem evMake_good (hE : E.Ok P) (hr : Rep ρ H w) (t : TypeId) {lv cv lv' cv' : Value} (hl : VR ρ lv lv') (hc : VR ρ cv cv') :
    Next.Good P ρ w (valued ((Instr.makeSlice t lv' cv').run P w)) (evMake E H t lv cv) := by
  unfold evMake
  split
  · rename_i i kl l kc c ht
    simp only [VR] at hl hc; subst hl hc
    obtain ⟨hu, _, _⟩ := hE.ty t i ht
    split
    · rename_i elem hd
      rw [hd] at hu
      cases he : E.ty.get elem with
      | none => simp [Next.Good]
      | some j =>
        simp only
        obtain ⟨_, ⟨ji, hji, hsz, hz, hby⟩, _⟩ := hE.ty elem j he
        cases hzc : zeroC j with
        | none => simp [Next.Good]
        | some z =>
          simp only
          obtain ⟨zv, hz1, rfl, hz3, hz4⟩ := zeroC_spec hzc
          cases hcond : (Nat.beq (cellsL zv).length j.size && (Nat.ble j.bytes 1024 && (Nat.ble 1 j.size && Nat.blt (H.next + 1) 2147483000))) with
          | false => simp [Next.Good]
          | true =>
            simp only [Bool.and_eq_true, Nat.blt_eq] at hcond
            have k1 := Nat.eq_of_beq_eq_true hcond.1
            have k2 := Nat.le_of_ble_eq_true hcond.2.1
            have k3 := Nat.le_of_ble_eq_true hcond.2.2.1
            have k4 := hcond.2.2.2
            simp only [cond_true, Next.Good]
            refine ⟨fun hg => ?_, fun _ => trivial⟩
            simp only [Bool.and_eq_true, decide_eq_true_eq] at hg
            obtain ⟨g1, g2, g3⟩ := hg
            have hbytes : (ji.bytes : Int) * c ≤ 281474976710656 := by
              have h1 : (ji.bytes : Int) ≤ 1024 := by omega
              have h2 : (ji.bytes : Int) * c ≤ 1024 * c := Int.mul_le_mul_of_nonneg_right h1 (by omega)
              omega
            have hrun := run_make (P := P) w t elem ji zv hu hji (hz.trans hz1) kl kc l c g1 g2 hbytes (by omega)
            rw [hsz] at hrun
            have hlc : l.toNat ≤ c.toNat := by omega
            have hmade : madeCells zv.cells (c.toNat * j.size) = ⟨(madeCells zv.cells (c.toNat * j.size)).toList.take (l.toNat * j.size) ++ (madeCells zv.cells (c.toNat * j.size)).toList.drop (l.toNat * j.size)⟩ := by
              apply Array.ext'; simp
            have hml : (madeCells zv.cells (c.toNat * j.size)).toList.length = c.toNat * j.size := by simp [size_madeCells]
            have hle : l.toNat * j.size ≤ c.toNat * j.size := Nat.mul_le_mul_right _ hlc
            have hgr : ∀ ρ' : Ren, GR ρ' j.size (fun _ q => ((cellsL zv)[q]?).getD undef) l.toNat 0 ((madeCells zv.cells (c.toNat * j.size)).toList.take (l.toNat * j.size)) := by
              intro ρ'
              have hidx : ∀ e q, e < l.toNat → q < j.size → e * j.size + q < l.toNat * j.size := by
                intro e q h1 h2
                have : (e + 1) * j.size ≤ l.toNat * j.size := Nat.mul_le_mul_right _ h1
                rw [Nat.add_mul] at this; omega
              refine ⟨fun e q h1 h2 => ?_, fun e q h1 h2 => ?_⟩
              · have hget : (cellsL zv)[q]? = some ((cellsL zv)[q]'(by omega)) := List.getElem?_eq_getElem (by omega)
                rw [hget]
                refine ⟨(cellsL zv)[q]'(by omega), ?_, cst_VR (List.all_eq_true.1 hz3 _ (List.getElem_mem _))⟩
                have hi := hidx e q h1 h2
                rw [Nat.zero_add, List.getElem?_take_of_lt hi]
                have hmod : (e * j.size + q) % (cellsL zv).length = q := by
                  rw [k1, Nat.mul_comm, Nat.mul_add_mod, Nat.mod_eq_of_lt h2]
                have hlt : e * j.size + q < c.toNat * j.size := by omega
                have hz5 : (cellsL zv).length = zv.cells.size := by rw [hz4]; rfl
                simp only [madeCells, hz4]
                rw [Array.getElem?_toList, Array.getElem?_map, Array.getElem?_range]
                rw [if_pos hlt]
                simp only [Option.map_some, Option.some.injEq]
                have hsz2 : (⟨cellsL zv⟩ : Array Value).size = (cellsL zv).length := rfl
                rw [hsz2, hmod]
                simp [getElem!_def, hget]
              · have hget : (cellsL zv)[q]? = some ((cellsL zv)[q]'(by omega)) := List.getElem?_eq_getElem (by omega)
                rw [hget]
                exact cst_one (List.all_eq_true.1 hz3 _ (List.getElem_mem _))
            obtain ⟨q1, q2, q3⟩ := hr.new (o := .fn j.size (fun _ q => ((cellsL zv)[q]?).getD undef) l.toNat elem) (o' := .cells (madeCells zv.cells (c.toNat * j.size)) elem (0, 0)) (by unfold big; exact k4) c.toNat j.size rfl
              ⟨by simp [Ren.ext], by simp [Ren.ext], _, _, congrArg (fun x => Obj.cells x elem (0, 0)) hmade, by rw [List.length_take, hml]; omega, by
                rw [← List.length_append, List.take_append_drop, hml]; simp [Ren.ext], hgr _⟩
            refine ⟨_, _, _, hr.ext_le _ _ _, q2, ?_, by rw [hrun]; rfl, q1, q3⟩
            simp only [VR]
            exact ⟨_, c.toNat, rfl, hlc, fun e => absurd rfl e, fun _ => ⟨w.heap.size, by simp [Ren.ext], by rw [at_start (by simp [Ren.ext]) (spOf_ok _)], fun _ _ => by simp [Ren.ext]⟩⟩
    · simp [Next.Good]
  · simp [Next.Good]

noncomputable def evMin (x y : Value) : ER :=
  match x, y with
  | .int k a, .int _ b => .val (.int k (bif decide (b < a) then b else a))
  | _, _ => .no
noncomputable def evMax (x y : Value) : ER :=
  match x, y with
  | .int k a, .int _ b => .val (.int k (bif decide (a < b) then b else a))
  | _, _ => .no
theorem evMin_good (ts : Array TypeId) (ty : TypeId) {x y x' y' : Value} (hx : VR ρ x x') (hy : VR ρ y y') : Next.Good P ρ w (valued ((Builtin.min_ ts ty #[x', y']).run P w)) (evMin x y) := by
  unfold evMin
  split
  · simp only [VR] at hx hy; subst hx hy
    refine ⟨_, VR_int, ?_⟩
    simp [valued, Builtin.min_, Builtin.min2, Bool.cond_decide]
  · simp [Next.Good]
theorem evMax_good (ts : Array TypeId) (ty : TypeId) {x y x' y' : Value} (hx : VR ρ x x') (hy : VR ρ y y') : Next.Good P ρ w (valued ((Builtin.max_ ts ty #[x', y']).run P w)) (evMax x y) := by
  unfold evMax
  split
  · simp only [VR] at hx hy; subst hx hy
    refine ⟨_, VR_int, ?_⟩
    simp [valued, Builtin.max_, Builtin.max2, Bool.cond_decide]
  · simp [Next.Good]

noncomputable def evOp (E : Env) (H : Heap) (t : Tr Value) (o : Oper) : ER :=
  match o.op with
  | .move x => match evx t x with | some v => .val v | none => .no
  | .assign x => match evx t x with | some v => .val v | none => .no
  | .pick c x y => match evx t c, evx t x, evx t y with
    | some (.bool q), some u, some v => .tst q (.val u) (.val v)
    | _, _, _ => .no
  | .alloc e => evAlloc E H e
  | .box e x => match evx t x with | some v => evBox H e v | none => .no
  | .build ty ps => match evParts t ps.toList with | some l => evBuild E ty l | none => .no
  | .buildSlice ty len ps => match evParts t ps.toList with | some l => evBuildSlice E H ty len l | none => .no
  | .load ty p => match evx t p with | some v => evLoad E H ty v | none => .no
  | .store ty p x => match evx t p, evx t x with | some u, some v => evStore E H ty u v | _, _ => .no
  | .nilCheck x => match evx t x with
    | some (.pointer (some q)) => .val (.pointer (some q))
    | some (.func (.func g) xs ys) => .val (.func (.func g) xs ys)
    | _ => .no
  | .binOp op ty x y _ => match evx t x, evx t y with | some u, some v => evBin E op ty u v | _, _ => .no
  | .unOp op _ x => match evx t x with | some v => evUn op v | none => .no
  | .convert s d x => match evx t x with | some v => evConv E H s d v | none => .no
  | .makeFunc fn xs ys => match evs t xs.toList, evs t ys.toList with | some l, some r => .val (.func fn ⟨l⟩ ⟨r⟩) | _, _ => .no
  | .slice ty x lo hi mx => match evx t x, evo t lo, evo t hi, evo t mx with | some v, some l, some h, some m => evSlice E H ty v l h m | _, _, _, _ => .no
  | .fieldAddr s x f => match evx t x with | some v => evField E s v f | none => .no
  | .field s x f => match evx t x with | some v => evFieldV E s v f | none => .no
  | .indexAddr ty x ix => match evx t x, evx t ix with | some u, some v => evIndexA E H ty u v | _, _ => .no
  | .index ty x ix => match evx t x, evx t ix with | some u, some v => evIndexV E ty u v | _, _ => .no
  | .extract x k => match evx t x with | some v => evExtract v k | none => .no
  | .call c => match c.callee with
    | .value f => match evx t f, evs t c.args.toList with | some u, some l => evCall E u l | _, _ => .no
    | .builtin .len => match c.args.toList, c.argTypes.toList with
      | [x], [ty] => match evx t x with | some v => evLen E ty v | none => .no
      | _, _ => .no
    | .builtin .append => match c.args.toList, c.argTypes.toList with
      | [x, y], [ty, ty'] => match evx t x, evx t y with | some u, some v => evAppend E H ty ty' u v | _, _ => .no
      | _, _ => .no
    | .builtin .min => match c.args.toList with
      | [x, y] => match evx t x, evx t y with | some u, some v => evMin u v | _, _ => .no
      | _ => .no
    | .builtin .max => match c.args.toList with
      | [x, y] => match evx t x, evx t y with | some u, some v => evMax u v | _, _ => .no
      | _ => .no
    | _ => .no
  | .makeSlice ty l c => match evx t l, evx t c with | some u, some v => evMake E H ty u v | _, _ => .no
  | _ => .no

theorem run_v (s : Sem Value) : (do pure (Next.value (← s)) : Sem Next).run P w = valued (s.run P w) := by
  simp only [Sem.run_bind, valued, Sem.run_pure]
theorem run_u (s : Sem Unit) : (do s; pure Next.skip : Sem Next).run P w = (s.run P w).andThen fun _ w => .ok .skip w := by
  simp only [Sem.run_bind, Sem.run_pure]

theorem evCall_good (hE : E.Ok P) {f f' : Value} {args args' : List Value} (hf : VR ρ f f') (ha : VRL ρ args args') :
    Next.Good P ρ w ((do let d ← Deferred.ofValue f' ⟨args'⟩; invoke d.target d.args : Sem Next).run P w) (evCall E f args) := by
  unfold evCall
  split
  · rename_i g xs ys
    cases hg : E.fn.get g with
    | none => simp [Next.Good]
    | some fn =>
      obtain ⟨h1, h2, h3⟩ := hE.fn g fn hg
      simp only [VR] at hf
      obtain ⟨xs', ys', hx, hy, rfl⟩ := hf
      refine ⟨xs' ++ args' ++ ys', VRL.append (VRL.append hx ha) hy, ?_⟩
      have hb : fn.body.isNone = false := by cases hbb : fn.body <;> simp_all
      have hm : ((⟨xs'⟩ : Array Value) ++ ⟨args'⟩ ++ ⟨ys'⟩) = ⟨xs' ++ args' ++ ys'⟩ := by apply Array.ext'; simp
      simp only [Deferred.ofValue, Sem.run_bind, Sem.run_pure, Result.andThen_ok, invoke, callFunc, run_program, h1, h3, hb, hm]
      simp
  · simp [Next.Good]

theorem evOp_good (hE : E.Ok P) (hr : Rep ρ H w) (ht : TR ρ n t a) (o : Oper) :
    Next.Good P ρ w ((execOp a.eval o).run P w) (evOp E H t o) := by
  unfold evOp execOp
  cases o.op with
  | move x =>
    simp only
    cases h : evx t x with
    | none => simp [Next.Good]
    | some v => exact ⟨_, evx_VR ht h, rfl⟩
  | assign x =>
    simp only
    cases h : evx t x with
    | none => simp [Next.Good]
    | some v => exact ⟨_, evx_VR ht h, rfl⟩
  | pick c x y =>
    simp only
    split
    · rename_i q u v h1 h2 h3
      have hc := evx_VR ht h1
      simp only [VR] at hc
      simp only [Next.Good]
      refine ⟨fun e => ⟨_, evx_VR ht h2, ?_⟩, fun e => ⟨_, evx_VR ht h3, ?_⟩⟩
      · subst e; simp [hc, asBool]
      · subst e; simp [hc, asBool]
    · simp [Next.Good]
  | alloc e => simp only; rw [run_v]; exact evAlloc_good hE hr e
  | box e x =>
    simp only
    cases h : evx t x with
    | none => simp [Next.Good]
    | some v => simp only; rw [run_v]; exact evBox_good hr e (evx_VR ht h)
  | build ty ps =>
    simp only
    cases h : evParts t ps.toList with
    | none => simp [Next.Good]
    | some l =>
      simp only; rw [run_v]
      have e : (ps.map fun x => match x with | (i, x) => (i, a.eval x)) = ⟨ps.toList.map fun p => (p.1, a.eval p.2)⟩ := by apply Array.ext'; simp
      rw [e]; exact evBuild_good hE ty (evParts_PR ht h)
  | buildSlice ty len ps =>
    simp only
    cases h : evParts t ps.toList with
    | none => simp [Next.Good]
    | some l =>
      simp only; rw [run_v]
      have e : (ps.map fun x => match x with | (i, x) => (i, a.eval x)) = ⟨ps.toList.map fun p => (p.1, a.eval p.2)⟩ := by apply Array.ext'; simp
      rw [e]; exact evBuildSlice_good hE hr ty len (evParts_PR ht h)
  | load ty p =>
    simp only
    cases h : evx t p with
    | none => simp [Next.Good]
    | some v => simp only; rw [run_v]; exact evLoad_good hE hr ty (evx_VR ht h)
  | store ty p x =>
    simp only
    split
    · rename_i u v h1 h2; rw [run_u]; exact evStore_good hE hr ty (evx_VR ht h1) (evx_VR ht h2)
    · simp [Next.Good]
  | nilCheck x =>
    simp only
    cases h : evx t x with
    | none => simp [Next.Good]
    | some v =>
      have hx := evx_VR ht h
      have hx0 := hx
      cases v with
      | pointer q => cases q with
        | none => simp [Next.Good]
        | some q =>
          simp only [VR] at hx
          obtain ⟨b, _, e⟩ := hx
          refine ⟨a.eval x, hx0, ?_⟩
          rw [e]; rfl
      | func fn xs ys => cases fn with
        | func g =>
          obtain ⟨xs⟩ := xs; obtain ⟨ys⟩ := ys
          simp only [VR] at hx
          obtain ⟨xs', ys', _, _, e⟩ := hx
          refine ⟨a.eval x, hx0, ?_⟩
          rw [e]; rfl
        | _ => simp [Next.Good]
      | _ => simp [Next.Good]
  | binOp op ty x y ty' =>
    simp only
    split
    · rename_i u v h1 h2; rw [run_v]; exact evBin_good hE op ty u v _ _ (evx_VR ht h1) (evx_VR ht h2) x y
    · simp [Next.Good]
  | unOp op ty x =>
    simp only
    cases h : evx t x with
    | none => simp [Next.Good]
    | some v => simp only; rw [run_v]; exact evUn_good op (evx_VR ht h)
  | convert s d x =>
    simp only
    cases h : evx t x with
    | none => simp [Next.Good]
    | some v => simp only; rw [run_v]; exact evConv_good hE hr s d (evx_VR ht h)
  | makeFunc fn xs ys =>
    simp only
    split
    · rename_i l r h1 h2
      rw [run_v]
      refine ⟨_, by simp only [VR]; exact ⟨_, _, evs_VR ht h1, evs_VR ht h2, rfl⟩, ?_⟩
      have e1 : xs.map a.eval = ⟨xs.toList.map a.eval⟩ := by apply Array.ext'; simp
      have e2 : ys.map a.eval = ⟨ys.toList.map a.eval⟩ := by apply Array.ext'; simp
      rw [e1, e2]; rfl
    · simp [Next.Good]
  | slice ty x lo hi mx =>
    simp only
    split
    · rename_i v l h m h1 h2 h3 h4; rw [run_v]; exact evSlice_good hE hr ty (evx_VR ht h1) (evo_VRO ht h2) (evo_VRO ht h3) (evo_VRO ht h4)
    · simp [Next.Good]
  | fieldAddr s x f =>
    simp only
    cases h : evx t x with
    | none => simp [Next.Good]
    | some v => simp only; rw [run_v]; exact evField_good hE s f (evx_VR ht h)
  | field s x f =>
    simp only
    cases h : evx t x with
    | none => simp [Next.Good]
    | some v => simp only; rw [run_v]; exact evFieldV_good hE s f (evx_VR ht h)
  | indexAddr ty x ix =>
    simp only
    split
    · rename_i u v h1 h2; rw [run_v]; exact evIndexA_good hE hr ty (evx_VR ht h1) (evx_VR ht h2)
    · simp [Next.Good]
  | index ty x ix =>
    simp only
    split
    · rename_i u v h1 h2; rw [run_v]; exact evIndexV_good hE ty (evx_VR ht h1) (evx_VR ht h2)
    · simp [Next.Good]
  | extract x k =>
    simp only
    cases h : evx t x with
    | none => simp [Next.Good]
    | some v => simp only; rw [run_v]; exact evExtract_good k (evx_VR ht h)
  | call c =>
    obtain ⟨cal, args, tys⟩ := c
    simp only
    split
    · rename_i f
      split
      · rename_i u l h1 h2
        have e1 : args.map a.eval = ⟨args.toList.map a.eval⟩ := by apply Array.ext'; simp
        simp only [resolve, e1]
        exact evCall_good hE (evx_VR ht h1) (evs_VR ht h2)
      · simp [Next.Good]
    · split
      · rename_i x ty hx hty
        cases h : evx t x with
        | none => simp [Next.Good]
        | some v =>
          simp only
          have e1 : args = #[x] := by apply Array.ext'; simpa using hx
          have e2 : tys = #[ty] := by apply Array.ext'; simpa using hty
          subst e1 e2
          simp only [resolve, Sem.run_bind, Sem.run_pure, Result.andThen_ok, invoke, builtin]
          have := evLen_good (w := w) hE ty o.type (evx_VR ht h)
          simpa [valued] using this
      · simp [Next.Good]
    · split
      · rename_i x y ty ty' hx hty
        split
        · rename_i u v h1 h2
          have e1 : args = #[x, y] := by apply Array.ext'; simpa using hx
          have e2 : tys = #[ty, ty'] := by apply Array.ext'; simpa using hty
          subst e1 e2
          simp only [resolve, Sem.run_bind, Sem.run_pure, Result.andThen_ok, invoke, builtin]
          have := evAppend_good (w := w) hE hr ty ty' o.type (evx_VR ht h1) (evx_VR ht h2)
          simpa [valued] using this
        · simp [Next.Good]
      · simp [Next.Good]
    · split
      · rename_i x y hx
        split
        · rename_i u v h1 h2
          have e1 : args = #[x, y] := by apply Array.ext'; simpa using hx
          subst e1
          simp only [resolve, Sem.run_bind, Sem.run_pure, Result.andThen_ok, invoke, builtin]
          have := evMin_good (P := P) (w := w) tys o.type (evx_VR ht h1) (evx_VR ht h2)
          simpa [valued] using this
        · simp [Next.Good]
      · simp [Next.Good]
    · split
      · rename_i x y hx
        split
        · rename_i u v h1 h2
          have e1 : args = #[x, y] := by apply Array.ext'; simpa using hx
          subst e1
          simp only [resolve, Sem.run_bind, Sem.run_pure, Result.andThen_ok, invoke, builtin]
          have := evMax_good (P := P) (w := w) tys o.type (evx_VR ht h1) (evx_VR ht h2)
          simpa [valued] using this
        · simp [Next.Good]
      · simp [Next.Good]
    · simp [Next.Good]
  | makeSlice ty l c =>
    simp only
    split
    · rename_i u v h1 h2; rw [run_v]; exact evMake_good hE hr ty (evx_VR ht h1) (evx_VR ht h2)
    · simp [Next.Good]
  | _ => simp [Next.Good]

/-! ### operations that yield one value in every world that has kept what there was -/
noncomputable def isFree : Op → Bool
  | .move _ | .assign _ | .pick .. | .load .. | .extract .. | .slice .. => true
  | _ => false

theorem UGood.weaken {C D : World → Prop} {r : World → Result Next} (h : ∀ w, D w → C w) : ∀ (x : ER), UGood ρ C r x → UGood ρ D r x
  | .val v, ⟨v', h1, h2⟩ => ⟨v', h1, fun w hw => h2 w (h w hw)⟩
  | .tst b x y, ⟨h1, h2⟩ => ⟨fun e => UGood.weaken h x (h1 e), fun e => UGood.weaken h y (h2 e)⟩
  | .mem _ _, _ => trivial
  | .skip _, _ => trivial
  | .call _ _, _ => trivial
  | .no, _ => trivial

theorem evOp_free (hE : E.Ok P) (hr : Rep ρ H w) (ht : TR ρ n t a) (o : Oper) (hfree : isFree o.op = true) :
    UGood ρ (fun W => ∀ k : Nat, k < w.heap.size → W.heap[k]? = w.heap[k]?) (fun W => (execOp a.eval o).run P W) (evOp E H t o) := by
  unfold evOp execOp
  cases ho : o.op with
  | move x =>
    simp only
    cases h : evx t x with
    | none => simp [UGood]
    | some v => exact ⟨_, evx_VR ht h, fun _ _ => rfl⟩
  | assign x =>
    simp only
    cases h : evx t x with
    | none => simp [UGood]
    | some v => exact ⟨_, evx_VR ht h, fun _ _ => rfl⟩
  | pick c x y =>
    simp only
    split
    · rename_i q u v h1 h2 h3
      have hc := evx_VR ht h1
      simp only [VR] at hc
      simp only [UGood]
      refine ⟨fun e => ⟨_, evx_VR ht h2, fun W _ => ?_⟩, fun e => ⟨_, evx_VR ht h3, fun W _ => ?_⟩⟩
      · subst e; simp [hc, asBool]
      · subst e; simp [hc, asBool]
    · simp [UGood]
  | load ty p =>
    simp only
    cases h : evx t p with
    | none => simp [UGood]
    | some v =>
      simp only [run_v]
      exact evLoad_same hE hr ty (evx_VR ht h)
  | slice ty x lo hi mx =>
    simp only
    split
    · rename_i v l h m h1 h2 h3 h4
      simp only [run_v]
      have := evSlice_same hE hr ty (evx_VR ht h1) (evo_VRO ht h2) (evo_VRO ht h3) (evo_VRO ht h4)
      exact UGood.weaken (fun _ _ => trivial) _ this
    · simp [UGood]
  | extract x k =>
    simp only
    cases h : evx t x with
    | none => simp [UGood]
    | some v =>
      simp only [run_v]
      have hx := evx_VR ht h
      unfold evExtract
      split
      · rename_i vs
        simp only [VR] at hx
        obtain ⟨vs', h1, e⟩ := hx
        cases hv : vs[k]? with
        | none => simp [UGood]
        | some v =>
          obtain ⟨v', h2, h3⟩ := VRL.get h1 k v hv
          exact ⟨v', h3, fun W _ => by rw [e]; simp [valued, Instr.extract, h2]⟩
      · simp [UGood]
  | _ => rw [ho] at hfree; simp [isFree] at hfree
end
end Go.Ly
