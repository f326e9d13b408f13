/- Part E: addresses, parts, new variables, conversions. -/
import Derived.Test.YtofimkcfenemlaaLyD
import Derived.Laws.BytesString
namespace Go.Ly
set_option linter.unusedSimpArgs false
set_option linter.unusedVariables false
section
variable {E : Env} {P : Program} {ρ : Ren} {w : World} {H : Heap}

/-! ### new variables -/
noncomputable def newBlk (H : Heap) (c : List Value) (t : TypeId) : ER :=
  bif Nat.blt (H.next + 1) 2147483000 && c.all one then .mem (.pointer (some ⟨H.next, 0, none⟩)) (H.new (.cells c t)) else .no

theorem newBlk_good (hr : Rep ρ H w) {c c' : List Value} (t : TypeId) (hc : VRL ρ c c') {r : Result Next}
    (hres : r = .ok (.value (.pointer (some ⟨w.heap.size, 0, none⟩))) (w.alloc (.cells ⟨c'⟩ t))) : Next.Good P ρ w r (newBlk H c t) := by
  unfold newBlk
  cases hcond : (Nat.blt (H.next + 1) 2147483000 && c.all one) with
  | false => simp [Next.Good]
  | true =>
    simp only [cond_true]
    simp only [Bool.and_eq_true, Nat.blt_eq] at hcond
    obtain ⟨h1, h2, h3⟩ := hr.new (o := .cells c t) (o' := .cells ⟨c'⟩ t (0, 0)) (by unfold big; exact hcond.1) 0 0 rfl ⟨by simp [Ren.ext], c', VRL.mono (hr.ext_le _ _ _) _ _ hc, rfl⟩
    refine ⟨_, _, _, hr.ext_le _ _ _, h2, ?_, hres, h1, h3⟩
    simp only [VR]
    exact ⟨w.heap.size, by simp [Ren.ext], by simp [Ren.at, Ren.ext]⟩

/-- the cells of a type's zero value -/
noncomputable def zeroC (i : TI) : Option (List Value) :=
  match i.zero with
  | some z => bif (cellsL z).all cst then some (cellsL z) else none
  | none => none

theorem VRL_cst : ∀ {l : List Value}, l.all cst = true → VRL ρ l l
  | [], _ => by simp [VRL]
  | v :: r, h => by
    simp only [List.all_cons, Bool.and_eq_true] at h
    simp only [VRL]
    exact ⟨v, r, cst_VR h.1, VRL_cst h.2, rfl⟩

theorem cells_of_cst {v : Value} (h : (cellsL v).all cst = true) : v.cells = ⟨cellsL v⟩ := by
  cases v <;> first | rfl | skip

noncomputable def evAlloc (E : Env) (H : Heap) (t : TypeId) : ER :=
  match E.ty.get t with
  | none => .no
  | some i => match zeroC i with
    | none => .no
    | some c => newBlk H c t

theorem zeroC_spec {i : TI} {c : List Value} (h : zeroC i = some c) : ∃ z, i.zero = some z ∧ c = cellsL z ∧ c.all cst = true ∧ z.cells = ⟨c⟩ := by
  unfold zeroC at h
  cases hz : i.zero with
  | none => rw [hz] at h; simp at h
  | some z =>
    rw [hz] at h; simp only at h
    cases hc : (cellsL z).all cst with
    | false => rw [hc] at h; simp at h
    | true => rw [hc] at h; simp at h; subst h; exact ⟨z, rfl, rfl, hc, cells_of_cst hc⟩

theorem run_zeroValue {t : TypeId} {i : TI} {z : Value} (hE : E.Ok P) (ht : E.ty.get t = some i) (hz : i.zero = some z) : (zeroValue t).run P w = .ok z w := by
  obtain ⟨_, ⟨j, hj, _, hz', _⟩, _⟩ := hE.ty t i ht
  simp [zeroValue, typeInfo, hj, hz', hz]

theorem evAlloc_good (hE : E.Ok P) (hr : Rep ρ H w) (t : TypeId) :
    Next.Good P ρ w (valued ((Instr.alloc t true (.tuple #[])).run P w)) (evAlloc E H t) := by
  unfold evAlloc
  cases ht : E.ty.get t with
  | none => simp [Next.Good]
  | some i =>
    simp only
    cases hz : zeroC i with
    | none => simp [Next.Good]
    | some c =>
      simp only
      obtain ⟨z, h1, rfl, h3, h4⟩ := zeroC_spec hz
      refine newBlk_good hr t (VRL_cst h3) ?_
      simp [valued, Instr.alloc, run_zeroValue hE ht h1, newVar, newRow, h4]

noncomputable def evBox (H : Heap) (t : TypeId) (v : Value) : ER := newBlk H (cellsL v) t

theorem evBox_good (hr : Rep ρ H w) (t : TypeId) {v v' : Value} (hv : VR ρ v v') :
    Next.Good P ρ w (valued ((Instr.box t v').run P w)) (evBox H t v) := by
  unfold evBox
  cases h : (cellsL v).all one with
  | false => simp [newBlk, h, Next.Good]
  | true =>
    obtain ⟨cs', h1, h2⟩ := cells_VR hv h
    refine newBlk_good hr t h1 ?_
    simp [valued, Instr.box, newVar, newRow, h2]

/-! ### addresses -/
noncomputable def evField (E : Env) (s : TypeId) (p : Value) (f : Nat) : ER :=
  match p, E.ty.get s with
  | .pointer (some a), some i =>
    match i.desc with
    | .struct fs =>
      match fs.toList[f]? with
      | some fd =>
        match E.ty.get fd.type with
        | some j => bif Nat.beq j.size 0 then .no else .val (.pointer (some ⟨a.block, a.off + fd.offset, a.spot⟩))
        | none => .no
      | none => .no
    | _ => .no
  | _, _ => .no

theorem VR_ptr {a : Addr} {b off : Nat} (h : ρ a.block = some b) (ho : off = ρ.at a) : VR ρ (.pointer (some a)) (.pointer (some ⟨b, off, none⟩)) := by
  simp only [VR]; exact ⟨b, h, by rw [ho]⟩
theorem at_plus (a : Addr) (d : Nat) : ρ.at ⟨a.block, a.off + d, a.spot⟩ = ρ.at a + d := by
  unfold Ren.at; cases a.spot <;> simp <;> omega
theorem at_none (i o : Nat) : ρ.at ⟨i, o, none⟩ = ρ.off i + o := rfl
theorem at_some (i o e : Nat) : ρ.at ⟨i, o, some e⟩ = ρ.off i + (e * ρ.wd i + o) := rfl
theorem at_of_none {a : Addr} (h : a.spot = none) : ρ.at a = ρ.off a.block + a.off := by unfold Ren.at; rw [h]
theorem at_of_some {a : Addr} {e : Nat} (h : a.spot = some e) : ρ.at a = ρ.off a.block + (e * ρ.wd a.block + a.off) := by unfold Ren.at; rw [h]

theorem evField_good (hE : E.Ok P) (s : TypeId) {p p' : Value} (f : Nat) (hp : VR ρ p p') :
    Next.Good P ρ w (valued ((Instr.fieldAt s p' f).run P w)) (evField E s p f) := by
  unfold evField
  split
  · rename_i a i hs
    simp only [VR] at hp
    obtain ⟨b, hb, rfl⟩ := hp
    obtain ⟨hu, _, _⟩ := hE.ty s i hs
    split
    · rename_i fs hd
      cases hf : fs.toList[f]? with
      | none => simp [Next.Good]
      | some fd =>
        simp only
        cases ht : E.ty.get fd.type with
        | none => simp [Next.Good]
        | some j =>
          simp only
          cases hz : Nat.beq j.size 0 with
          | true => simp [Next.Good]
          | false =>
            have hz' : j.size ≠ 0 := Nat.ne_of_beq_eq_false hz
            have hf' : fs[f]? = some fd := by simpa using hf
            rw [hd] at hu
            refine ⟨_, VR_ptr hb (at_plus a fd.offset).symm, ?_⟩
            simp [valued, Instr.fieldAt, run_underlying hu, hf', Instr.sureAddr, fieldPlace, run_sizeOf hE ht, hz', addr_add]
    · simp [Next.Good]
  · simp [Next.Good]

/-- the elements of a row have so many cells -/
noncomputable def wdIs (H : Heap) (i k : Nat) : Bool :=
  match H.get i with
  | some o => match o.row? with
    | some (k', _, _) => Nat.beq k' k
    | none => false
  | none => false
theorem wdIs_eq (hr : Rep ρ H w) {i k : Nat} (h : wdIs H i k = true) : ρ.wd i = k := by
  unfold wdIs at h
  cases ho : H.get i with
  | none => rw [ho] at h; cases h
  | some o =>
    rw [ho] at h; simp only at h
    cases hr' : o.row? with
    | none => rw [hr'] at h; cases h
    | some x =>
      obtain ⟨k', g, n⟩ := x
      rw [hr'] at h; simp only at h
      rw [(hr.gcell ho hr').1]; exact Nat.eq_of_beq_eq_true h

noncomputable def evIndexA (E : Env) (H : Heap) (t : TypeId) (x ix : Value) : ER :=
  match ix, E.ty.get t with
  | .int _ n, some i =>
    match i.desc, x with
    | .array len elem, .pointer (some a) =>
      match E.ty.get elem with
      | some j => .tst (decide (0 ≤ n) && decide (n < len)) (.val (.pointer (some ⟨a.block, a.off + n.toNat * j.size, a.spot⟩))) .no
      | none => .no
    | .slice elem, .slice (some a) len _ =>
      match E.ty.get elem with
      | some j =>
        match a.spot with
        | none => .tst (decide (0 ≤ n) && decide (n < len)) (.val (.pointer (some ⟨a.block, a.off + n.toNat * j.size, none⟩))) .no
        | some e => bif wdIs H a.block j.size then .tst (decide (0 ≤ n) && decide (n < len)) (.val (.pointer (some ⟨a.block, a.off, some (e + n.toNat)⟩))) .no else .no
      | none => .no
    | _, _ => .no
  | _, _ => .no

theorem evIndexA_good (hE : E.Ok P) (hr : Rep ρ H w) (t : TypeId) {x x' ix ix' : Value} (hx : VR ρ x x') (hi : VR ρ ix ix') :
    Next.Good P ρ w (valued ((Instr.indexAt t x' ix').run P w)) (evIndexA E H t x ix) := by
  unfold evIndexA
  split
  · rename_i k n i ht
    simp only [VR] at hi; subst hi
    obtain ⟨hu, _, _⟩ := hE.ty t i ht
    split
    · rename_i len elem a hd
      simp only [VR] at hx
      obtain ⟨b, hb, rfl⟩ := hx
      rw [hd] at hu
      cases he : E.ty.get elem with
      | none => simp [Next.Good]
      | some j =>
        simp only [Next.Good]
        refine ⟨fun hc => ?_, fun _ => trivial⟩
        simp only [Bool.and_eq_true, decide_eq_true_eq] at hc
        refine ⟨_, VR_ptr hb (at_plus a (n.toNat * j.size)).symm, ?_⟩
        simp [valued, Instr.indexAt, asIntOf, run_underlying hu, Instr.sureAddr, hc, run_sizeOf hE he, addr_add]
    · rename_i elem a len c hd
      rw [hd] at hu
      cases he : E.ty.get elem with
      | none => simp [Next.Good]
      | some j =>
        simp only
        have fin : ∀ (q : Addr), q.block = a.block → ρ.at q = ρ.at a + n.toNat * j.size → 0 ≤ n ∧ n < len → Next.Good P ρ w (valued ((Instr.indexAt t x' (.int k n)).run P w)) (.val (.pointer (some q))) := by
          intro q hq hat hc
          obtain ⟨b, c', hb, rfl, _⟩ := VR_slice_addr hx (by omega)
          refine ⟨_, VR_ptr (a := q) (by rw [hq]; exact hb) hat.symm, ?_⟩
          simp [valued, Instr.indexAt, asIntOf, run_underlying hu, hc, run_sizeOf hE he, addr_add]
        cases hs : a.spot with
        | none =>
          simp only [Next.Good]
          refine ⟨fun hc => ?_, fun _ => trivial⟩
          simp only [Bool.and_eq_true, decide_eq_true_eq] at hc
          exact fin _ rfl (by rw [at_none, at_of_none hs]; omega) hc
        | some e =>
          simp only
          cases hw : wdIs H a.block j.size with
          | false => simp [Next.Good]
          | true =>
            have hw' := wdIs_eq hr hw
            simp only [cond_true, Next.Good]
            refine ⟨fun hc => ?_, fun _ => trivial⟩
            simp only [Bool.and_eq_true, decide_eq_true_eq] at hc
            exact fin _ rfl (by rw [at_some, at_of_some hs, hw', Nat.add_mul]; omega) hc
    · simp [Next.Good]
  · simp [Next.Good]

/-! ### parts of values -/
noncomputable def evFieldV (E : Env) (s : TypeId) (x : Value) (f : Nat) : ER :=
  match x, E.ty.get s with
  | .agg ⟨cs⟩, some i =>
    match i.desc with
    | .struct fs =>
      match fs.toList[f]? with
      | some fd =>
        match E.ty.get fd.type with
        | some j => match partL j.size (isAggD j.desc) cs fd.offset with | some v => .val v | none => .no
        | none => .no
      | none => .no
    | _ => .no
  | _, _ => .no

theorem evFieldV_good (hE : E.Ok P) (s : TypeId) {x x' : Value} (f : Nat) (hx : VR ρ x x') :
    Next.Good P ρ w (valued ((Instr.field s x' f).run P w)) (evFieldV E s x f) := by
  unfold evFieldV
  split
  · rename_i cs i hs
    simp only [VR] at hx
    obtain ⟨cs', h1, rfl⟩ := hx
    obtain ⟨hu, _, _⟩ := hE.ty s i hs
    split
    · rename_i fs hd
      cases hf : fs.toList[f]? with
      | none => simp [Next.Good]
      | some fd =>
        simp only
        cases ht : E.ty.get fd.type with
        | none => simp [Next.Good]
        | some j =>
          simp only
          cases hp : partL j.size (isAggD j.desc) cs fd.offset with
          | none => simp [Next.Good]
          | some v =>
            obtain ⟨v', hv, hrun⟩ := run_part (w := w) hE ht h1 hp
            have hf' : fs[f]? = some fd := by simpa using hf
            rw [hd] at hu
            refine ⟨v', hv, ?_⟩
            simp [valued, Instr.field, run_underlying hu, hf', asAgg, hrun]
    · simp [Next.Good]
  · simp [Next.Good]

noncomputable def evIndexV (E : Env) (t : TypeId) (x ix : Value) : ER :=
  match ix, E.ty.get t with
  | .int _ n, some i =>
    match i.desc, x with
    | .array len elem, .agg ⟨cs⟩ =>
      match E.ty.get elem with
      | some j => .tst (decide (0 ≤ n) && decide (n < len)) (match partL j.size (isAggD j.desc) cs (n.toNat * j.size) with | some v => .val v | none => .no) .no
      | none => .no
    | .string, .string s => .tst (decide (0 ≤ n) && decide (n < s.size)) (.val (.int .u8 (s.data.toList.getD n.toNat 0).toNat)) .no
    | _, _ => .no
  | _, _ => .no

theorem evIndexV_good (hE : E.Ok P) (t : TypeId) {x x' ix ix' : Value} (hx : VR ρ x x') (hi : VR ρ ix ix') :
    Next.Good P ρ w (valued ((Instr.index t x' ix').run P w)) (evIndexV E t x ix) := by
  unfold evIndexV
  split
  · rename_i k n i ht
    simp only [VR] at hi; subst hi
    obtain ⟨hu, _, _⟩ := hE.ty t i ht
    split
    · rename_i len elem cs hd
      simp only [VR] at hx
      obtain ⟨cs', h1, rfl⟩ := hx
      rw [hd] at hu
      cases he : E.ty.get elem with
      | none => simp [Next.Good]
      | some j =>
        simp only [Next.Good]
        refine ⟨fun hc => ?_, fun _ => trivial⟩
        simp only [Bool.and_eq_true, decide_eq_true_eq] at hc
        cases hp : partL j.size (isAggD j.desc) cs (n.toNat * j.size) with
        | none => simp [Next.Good]
        | some v =>
          obtain ⟨v', hv, hrun⟩ := run_part (w := w) hE he h1 hp
          refine ⟨v', hv, ?_⟩
          simp [valued, Instr.index, asIntOf, run_underlying hu, hc, run_sizeOf hE he, hrun]
    · rename_i s hd
      simp only [VR] at hx; subst hx
      rw [hd] at hu
      simp only [Next.Good]
      refine ⟨fun hc => ?_, fun _ => trivial⟩
      simp only [Bool.and_eq_true, decide_eq_true_eq] at hc
      refine ⟨_, VR_int, ?_⟩
      have hlt : n.toNat < s.size := by omega
      have hlt' : n.toNat < s.data.toList.length := by simpa using hlt
      have hg : s.data.toList.getD n.toNat 0 = s[n.toNat] := by
        rw [List.getD_eq_getElem?_getD, List.getElem?_eq_getElem hlt']; simp; rfl
      rw [hg]
      have hg2 : s[n.toNat]? = some s[n.toNat] := by simp [hlt]
      simp [valued, Instr.index, asIntOf, run_underlying hu, hc.1, hg2]
    · simp [Next.Good]
  · simp [Next.Good]

noncomputable def evExtract (x : Value) (n : Nat) : ER :=
  match x with
  | .tuple ⟨vs⟩ => match vs[n]? with | some v => .val v | none => .no
  | _ => .no

theorem evExtract_good {x x' : Value} (n : Nat) (hx : VR ρ x x') : Next.Good P ρ w (valued ((Instr.extract x' n).run P w)) (evExtract x n) := by
  unfold evExtract
  split
  · rename_i vs
    simp only [VR] at hx
    obtain ⟨vs', h1, rfl⟩ := hx
    cases hv : vs[n]? with
    | none => simp [Next.Good]
    | some v =>
      obtain ⟨v', h2, h3⟩ := VRL.get h1 n v hv
      exact ⟨v', h3, by simp [valued, Instr.extract, h2]⟩
  · simp [Next.Good]

/-! ### unary operations, conversions -/
noncomputable def evUn (op : UnOp) (x : Value) : ER :=
  match op, x with
  | .neg, .int k n => .val (.int k (k.wrap (0 - n)))
  | .xor, .int k n => .val (.int k (bits .xor k (bif k.signed then -1 else k.max) n))
  | .not, .bool b => .val (.bool (!b))
  | _, _ => .no

theorem evUn_good (op : UnOp) {x x' : Value} (hx : VR ρ x x') : Next.Good P ρ w (valued ((Op.unary op x').run P w)) (evUn op x) := by
  unfold evUn
  split
  · simp only [VR] at hx; subst hx; exact ⟨_, VR_int, by simp [valued, Op.unary, Op.intArith]⟩
  · rename_i k n
    simp only [VR] at hx; subst hx
    refine ⟨_, VR_int, ?_⟩
    cases hs : k.signed <;> simp [valued, Op.unary, intBits_xor, hs]
  · simp only [VR] at hx; subst hx; exact ⟨_, VR_bool, by simp [valued, Op.unary]⟩
  · simp [Next.Good]

noncomputable def bytesOf : List Value → Option (List UInt8)
  | [] => some []
  | .int .u8 n :: r => match bytesOf r with | some l => some (UInt8.ofNat n.toNat :: l) | none => none
  | _ => none

noncomputable def evConv (E : Env) (H : Heap) (src dst : TypeId) (x : Value) : ER :=
  match E.ty.get src, E.ty.get dst with
  | some i, some j =>
    match i.desc, j.desc, x with
    | _, .int k, .int _ n => .val (.int k (k.wrap n))
    | _, .string, .string s => .val (.string s)
    | .slice e, .string, .slice (some a) n _ =>
      match E.ty.get e, a.spot, H.get a.block with
      | some q, none, some o =>
        match q.desc with
        | .int .u8 =>
          let l := (o.cs.drop a.off).take n
          bif o.lst && Nat.beq l.length n then (match bytesOf l with | some bs => .val (.string ⟨⟨bs⟩⟩) | none => .no) else .no
        | _ => .no
      | _, _, _ => .no
    | .slice e, .string, .slice none _ _ =>
      match E.ty.get e with
      | some q => match q.desc with
        | .int .u8 => .val (.string ⟨⟨[]⟩⟩)
        | _ => .no
      | none => .no
    | _, _, _ => .no
  | _, _ => .no

theorem bytesOf_spec : ∀ (l : List Value) (bs : List UInt8) (l' : List Value), bytesOf l = some bs → VRL ρ l l' →
    ∃ ns : List Int, l' = ns.map (Value.int .u8) ∧ ∀ s : ByteArray, ns.foldl (fun r n => r.push (UInt8.ofNat n.toNat)) s = ⟨⟨s.data.toList ++ bs⟩⟩
  | [], bs, l', h, hv => by
    simp only [bytesOf, Option.some.injEq] at h; subst h
    simp only [VRL] at hv; subst hv
    exact ⟨[], rfl, fun s => by simp⟩
  | v :: r, bs, l', h, hv => by
    simp only [VRL] at hv
    obtain ⟨v', r', h1, h2, rfl⟩ := hv
    unfold bytesOf at h
    split at h
    · rename_i e; cases e
    · rename_i n r0 e
      injection e with e1 e2
      subst e1 e2
      cases hb : bytesOf r with
      | none => rw [hb] at h; simp at h
      | some l =>
        rw [hb] at h; simp only [Option.some.injEq] at h; subst h
        obtain ⟨ns, rfl, hns⟩ := bytesOf_spec r l r' hb h2
        simp only [VR] at h1; subst h1
        refine ⟨n :: ns, rfl, fun s => ?_⟩
        rw [List.foldl_cons, hns]
        simp [ByteArray.push]
    · simp at h

theorem evConv_good (hE : E.Ok P) (hr : Rep ρ H w) (src dst : TypeId) {x x' : Value} (hx : VR ρ x x') : Next.Good P ρ w (valued ((convert src dst x').run P w)) (evConv E H src dst x) := by
  unfold evConv
  split
  · rename_i i j hi hj
    obtain ⟨hu, _, _⟩ := hE.ty src i hi
    obtain ⟨hv, _, _⟩ := hE.ty dst j hj
    split
    · rename_i k k' n hd
      simp only [VR] at hx; subst hx
      rw [hd] at hv
      exact ⟨_, VR_int, by simp [valued, convert, run_underlying hu, run_underlying hv, Conv.intToInt]⟩
    · rename_i s hd
      simp only [VR] at hx; subst hx
      rw [hd] at hv
      exact ⟨_, VR_string, by simp [valued, convert, run_underlying hu, run_underlying hv]⟩
    · rename_i e a n c hd1 hd2
      rw [hd1] at hu; rw [hd2] at hv
      split
      · rename_i q o hq hs ho
        obtain ⟨he, _, _⟩ := hE.ty e q hq
        split
        · rename_i hd3
          rw [hd3] at he
          simp only
          cases hl0 : (o.lst && Nat.beq ((o.cs.drop a.off).take n).length n) with
          | false => simp [Next.Good]
          | true =>
            simp only [cond_true]
            rw [Bool.and_eq_true] at hl0
            have hl' := Nat.eq_of_beq_eq_true hl0.2
            cases hb : bytesOf ((o.cs.drop a.off).take n) with
            | none => simp [Next.Good]
            | some bs =>
              by_cases hn0 : n = 0
              · subst hn0
                obtain ⟨a', c', rfl⟩ := VR_slice_some hx
                have hbs : bs = [] := by
                  simp [bytesOf] at hb; exact hb
                subst hbs
                refine ⟨_, VR_string, ?_⟩
                have hrun := run_bytesToString (P := P) w a' 0 c' [] (by simp [loadCells, loadCellsFrom])
                rw [run_convert_bytes_string w src dst e _ _ _ hu he hv, hrun]
                rfl
              obtain ⟨b, c', hbb, rfl, _⟩ := VR_slice_addr hx hn0
              obtain ⟨b', c1, d1, hb', hblk, hc, _, h00⟩ := hr.block ho (LO.own_of_lst hl0.1)
              obtain rfl : b' = b := by rw [hbb] at hb'; exact (Option.some.inj hb').symm
              rw [flat_at hs h00]
              have hvo := VRL.take n (VRL.drop a.off hc)
              obtain ⟨ns, hns, hfold⟩ := bytesOf_spec _ bs _ hb hvo
              have hlo : ((c1.drop a.off).take n).length = n := by rw [VRL.length hvo]; exact hl'
              have hload : (loadCells ⟨b', a.off, none⟩ n).run P w = .ok (ns.map (Value.int .u8)).toArray w := by
                have := run_loadCells_list (P := P) w ⟨b', a.off, none⟩ ((c1.drop a.off).take n) (fun q v hq => by
                  rw [addr_add, cell_of hblk]
                  have hjl : q < n := by have := (List.getElem?_eq_some_iff.1 hq).1; omega
                  rw [List.getElem?_take_of_lt hjl, List.getElem?_drop] at hq
                  rw [List.getElem?_append_left (by have := (List.getElem?_eq_some_iff.1 hq).1; omega)]
                  exact hq)
                rw [hlo, hns] at this
                exact this
              have hrun := run_bytesToString (P := P) w ⟨b', a.off, none⟩ n c' ns hload
              rw [hfold] at hrun
              refine ⟨_, VR_string, ?_⟩
              rw [run_convert_bytes_string w src dst e _ _ _ hu he hv, hrun]
              rfl
        · simp [Next.Good]
      · simp [Next.Good]
    · rename_i e n c hd1 hd2
      rw [hd1] at hu; rw [hd2] at hv
      cases hq : E.ty.get e with
      | none => simp [Next.Good]
      | some q =>
        obtain ⟨he, _, _⟩ := hE.ty e q hq
        simp only
        split
        · rename_i hd3
          rw [hd3] at he
          simp only [VR] at hx; subst hx
          refine ⟨_, VR_string, ?_⟩
          rw [run_convert_bytes_string w src dst e _ _ _ hu he hv]
          rfl
        · simp [Next.Good]
    · simp [Next.Good]
  · simp [Next.Good]
end
end Go.Ly
