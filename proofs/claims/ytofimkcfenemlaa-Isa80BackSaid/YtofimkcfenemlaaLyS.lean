/- Part S: runs in parts: where one halts; states brought into one form (loops); what a call comes to. -/
import Derived.Test.YtofimkcfenemlaaLyR
namespace Go.Ly
open Go.RowKit
set_option linter.unusedSimpArgs false
set_option linter.unusedVariables false

/-! ### what a run came to -/
noncomputable def RO.trust : RO → List (Bool × Bool)
  | .ok t _ => t
  | .no => []
noncomputable def RO.isHalt : RO → Bool
  | .ok _ (.halt _) => true
  | _ => false
noncomputable def RO.st (d : St) : RO → St
  | .ok _ (.halt S) => S
  | _ => d
/-- the value and the heap at the end -/
noncomputable def RO.end? : RO → Option (List (Bool × Bool) × Value × Heap)
  | .ok t (.done v H) => some (t, v, H)
  | _ => none

section
variable {P : Program} {C : Ctx} {Q : Value → Heap → Prop}

theorem MWp.seg (hC : C.Ok P) {S d : St} {t : List (Bool × Bool)} (n : Nat) (p : Path) (h : (run C n p S).isHalt = true) (ht : (run C n p S).trust = t) (htr : trusted t) (hs : MWp P ((run C n p S).st d) Q) : MWp P S Q := by
  cases hr : run C n p S with
  | no => rw [hr] at h; simp [RO.isHalt] at h
  | ok t' l =>
    rw [hr] at h ht hs
    cases l with
    | done v H => simp [RO.isHalt] at h
    | halt S' =>
      simp only [RO.trust] at ht; subst ht
      exact run_sound hC n p S _ _ hr htr hs

theorem MWp.done (hC : C.Ok P) {S : St} {t : List (Bool × Bool)} {v : Value} {H : Heap} (n : Nat) (p : Path) (h : (run C n p S).end? = some (t, v, H)) (htr : trusted t) (hq : Q v H) : MWp P S Q := by
  cases hr : run C n p S with
  | no => rw [hr] at h; simp [RO.end?] at h
  | ok t' l =>
    rw [hr] at h
    cases l with
    | halt S' => simp [RO.end?] at h
    | done u K =>
      simp only [RO.end?, Option.some.injEq, Prod.mk.injEq] at h
      obtain ⟨rfl, rfl, rfl⟩ := h
      exact run_sound hC n p S _ _ hr htr hq

theorem MWp.out (hC : C.Ok P) {S : St} {t : List (Bool × Bool)} {v : Value} (n : Nat) (p : Path) (h : (run C n p S).out? = some (t, v)) (htr : trusted t) (hq : ∀ H, Q v H) : MWp P S Q := by
  cases hr : run C n p S with
  | no => rw [hr] at h; simp [RO.out?] at h
  | ok t' l =>
    rw [hr] at h
    cases l with
    | halt S' => simp [RO.out?] at h
    | done u K =>
      simp only [RO.out?, Option.some.injEq, Prod.mk.injEq] at h
      obtain ⟨rfl, rfl⟩ := h
      exact run_sound hC n p S _ _ hr htr (hq K)

theorem MWp.mono {S : St} {Q' : Value → Heap → Prop} (h : MWp P S Q) (hq : ∀ v H, Q v H → Q' v H) : MWp P S Q' :=
  fun ρ w g gs R hr hf hfs hR => h ρ w g gs R hr hf hfs (fun ρ' v v' H' w' q => hR ρ' v v' H' w' (hq v H' q))

theorem LCalls.mono {f : FuncId} {args : List Value} {H : Heap} {Q' : Value → Heap → Prop} (h : LCalls P f args H Q) (hq : ∀ v H, Q v H → Q' v H) : LCalls P f args H Q' := by
  intro ρ args' w ha hr
  refine (h ρ args' w ha hr).mono ?_
  rintro e w' ⟨ρ', v, v', H', h1, h2, h3⟩
  exact ⟨ρ', v, v', H', h1, hq v H' h2, h3⟩
end

/-! ### blocks in a value -/
mutual
noncomputable def blks (p : Nat → Bool) : Value → Bool
  | .pointer (some a) => p a.block
  | .slice (some a) _ _ => p a.block
  | .map (some r) => p r
  | .func _ ⟨xs⟩ ⟨ys⟩ => blksL p xs && blksL p ys
  | .iface _ x => blks p x
  | .agg ⟨xs⟩ => blksL p xs
  | .tuple ⟨xs⟩ => blksL p xs
  | _ => true
noncomputable def blksL (p : Nat → Bool) : List Value → Bool
  | [] => true
  | v :: r => blks p v && blksL p r
end
/-- a value that names no block -/
noncomputable def noBlk (v : Value) : Prop := blks (fun _ => false) v = true

mutual
theorem VR_noBlk {ρ ρ' : Ren} : ∀ (v v' : Value), blks (fun _ => false) v = true → VR ρ v v' → VR ρ' v v'
  | .bool _, _, _, h => h
  | .int _ _, _, _, h => h
  | .string _, _, _, h => h
  | .pointer none, _, _, h => h
  | .pointer (some a), _, hb, h => by simp [blks] at hb
  | .slice none _ _, _, _, h => h
  | .slice (some a) n c, _, hb, h => by simp [blks] at hb
  | .map none, _, _, h => h
  | .map (some r), _, hb, h => by simp [blks] at hb
  | .func fn ⟨xs⟩ ⟨ys⟩, _, hb, h => by
    simp only [blks, Bool.and_eq_true] at hb
    simp only [VR] at h ⊢
    obtain ⟨xs', ys', h1, h2, rfl⟩ := h
    exact ⟨xs', ys', VRL_noBlk xs xs' hb.1 h1, VRL_noBlk ys ys' hb.2 h2, rfl⟩
  | .nilFunc, _, _, h => h
  | .iface t x, _, hb, h => by
    simp only [blks] at hb
    simp only [VR] at h ⊢
    obtain ⟨x', h1, rfl⟩ := h
    exact ⟨x', VR_noBlk x x' hb h1, rfl⟩
  | .nilIface, _, _, h => h
  | .agg ⟨xs⟩, _, hb, h => by
    simp only [blks] at hb
    simp only [VR] at h ⊢
    obtain ⟨x', h1, rfl⟩ := h
    exact ⟨x', VRL_noBlk xs x' hb h1, rfl⟩
  | .tuple ⟨xs⟩, _, hb, h => by
    simp only [blks] at hb
    simp only [VR] at h ⊢
    obtain ⟨x', h1, rfl⟩ := h
    exact ⟨x', VRL_noBlk xs x' hb h1, rfl⟩
  | .float _ _, _, _, h => h
  | .complex _ _ _, _, _, h => h
  | .chan _, _, _, h => h
theorem VRL_noBlk {ρ ρ' : Ren} : ∀ (l l' : List Value), blksL (fun _ => false) l = true → VRL ρ l l' → VRL ρ' l l'
  | [], _, _, h => h
  | v :: r, _, hb, h => by
    simp only [blksL, Bool.and_eq_true] at hb
    simp only [VRL] at h ⊢
    obtain ⟨v', r', h1, h2, rfl⟩ := h
    exact ⟨v', r', VR_noBlk v v' hb.1 h1, VRL_noBlk r r' hb.2 h2, rfl⟩
end

/-! ### some blocks, under numbers from 0 on -/
noncomputable def memB : List Nat → Nat → Bool
  | [], _ => false
  | x :: r, b => bif Nat.beq x b then true else memB r b
noncomputable def posOf : List Nat → Nat → Nat
  | [], _ => 0
  | x :: r, b => bif Nat.beq x b then 0 else posOf r b + 1
theorem posOf_get : ∀ (L : List Nat) (b : Nat), memB L b = true → L[posOf L b]? = some b
  | [], b, h => by simp [memB] at h
  | x :: r, b, h => by
    simp only [memB, posOf] at h ⊢
    cases hb : Nat.beq x b with
    | true => simp [Nat.eq_of_beq_eq_true hb]
    | false => rw [hb] at h; simp only [cond_false] at h ⊢; simp [posOf_get r b h]

noncomputable def Ren.via (ρ : Ren) (L : List Nat) : Ren :=
  ⟨fun i => (L[i]?).bind ρ.b, fun i => ρ.cap (L.getD i 0), fun i => ρ.ro (L.getD i 0), fun i => ρ.off (L.getD i 0), fun i => ρ.wd (L.getD i 0)⟩
theorem via_get (ρ : Ren) {L : List Nat} {i b : Nat} (h : L[i]? = some b) : (ρ.via L) i = ρ b ∧ (ρ.via L).cap i = ρ.cap b ∧ (ρ.via L).ro i = ρ.ro b ∧ (ρ.via L).off i = ρ.off b ∧ (ρ.via L).wd i = ρ.wd b := by
  simp [Ren.via, h]
theorem via_at (ρ : Ren) {L : List Nat} {a : Addr} (h : memB L a.block = true) : (ρ.via L).at ⟨posOf L a.block, a.off, a.spot⟩ = ρ.at a := by
  have := via_get ρ (posOf_get L a.block h)
  unfold Ren.at
  simp only [this.2.2.2.1, this.2.2.2.2]

mutual
theorem VR_via {ρ : Ren} {L : List Nat} : ∀ (v v' : Value), blks (memB L) v = true → VR ρ v v' → VR (ρ.via L) (renV (posOf L) v) v'
  | .bool _, _, _, h => h
  | .int _ _, _, _, h => h
  | .string _, _, _, h => h
  | .pointer none, _, _, h => h
  | .pointer (some a), _, hb, h => by
    simp only [blks] at hb
    simp only [VR] at h
    simp only [renV, VR]
    obtain ⟨b, h1, rfl⟩ := h
    exact ⟨b, by rw [(via_get ρ (posOf_get L _ hb)).1]; exact h1, by rw [via_at ρ hb]⟩
  | .slice none _ _, _, _, h => h
  | .slice (some a) n c, _, hb, h => by
    simp only [blks] at hb
    simp only [VR] at h
    simp only [renV, VR]
    obtain ⟨a', c', h1, h2, h3, h4⟩ := h
    refine ⟨a', c', h1, h2, h3, fun hn => ?_⟩
    obtain ⟨b, h5, h6, h7⟩ := h4 hn
    exact ⟨b, by rw [(via_get ρ (posOf_get L _ hb)).1]; exact h5, by rw [via_at ρ hb]; exact h6, by rw [via_at ρ hb, (via_get ρ (posOf_get L _ hb)).2.1]; exact h7⟩
  | .map none, _, _, h => h
  | .map (some r), _, hb, h => by
    simp only [blks] at hb
    simp only [VR] at h
    simp only [renV, VR]
    obtain ⟨b, h1, rfl⟩ := h
    exact ⟨b, by rw [(via_get ρ (posOf_get L _ hb)).1]; exact h1, rfl⟩
  | .func fn ⟨xs⟩ ⟨ys⟩, _, hb, h => by
    simp only [blks, Bool.and_eq_true] at hb
    simp only [VR] at h
    simp only [renV, VR]
    obtain ⟨xs', ys', h1, h2, rfl⟩ := h
    exact ⟨xs', ys', VRL_via xs xs' hb.1 h1, VRL_via ys ys' hb.2 h2, rfl⟩
  | .nilFunc, _, _, h => h
  | .iface t x, _, hb, h => by
    simp only [blks] at hb
    simp only [VR] at h
    simp only [renV, VR]
    obtain ⟨x', h1, rfl⟩ := h
    exact ⟨x', VR_via x x' hb h1, rfl⟩
  | .nilIface, _, _, h => h
  | .agg ⟨xs⟩, _, hb, h => by
    simp only [blks] at hb
    simp only [VR] at h
    simp only [renV, VR]
    obtain ⟨x', h1, rfl⟩ := h
    exact ⟨x', VRL_via xs x' hb h1, rfl⟩
  | .tuple ⟨xs⟩, _, hb, h => by
    simp only [blks] at hb
    simp only [VR] at h
    simp only [renV, VR]
    obtain ⟨x', h1, rfl⟩ := h
    exact ⟨x', VRL_via xs x' hb h1, rfl⟩
  | .float _ _, _, _, h => h
  | .complex _ _ _, _, _, h => h
  | .chan _, _, _, h => by simp [renV, VR]
theorem VRL_via {ρ : Ren} {L : List Nat} : ∀ (l l' : List Value), blksL (memB L) l = true → VRL ρ l l' → VRL (ρ.via L) (renL (posOf L) l) l'
  | [], _, _, h => h
  | v :: r, _, hb, h => by
    simp only [blksL, Bool.and_eq_true] at hb
    simp only [VRL] at h
    simp only [renL, VRL]
    obtain ⟨v', r', h1, h2, rfl⟩ := h
    exact ⟨v', r', VR_via v v' hb.1 h1, VRL_via r r' hb.2 h2, rfl⟩
end

noncomputable def colO (L : List Nat) : LO → LO
  | .cells c t => .cells (renL (posOf L) c) t
  | .row c t z => .row (renL (posOf L) c) t z
  | o => o
noncomputable def colOB (L : List Nat) : LO → Bool
  | .cells c _ => blksL (memB L) c
  | .row c _ _ => blksL (memB L) c
  | _ => true
/-- rows that functions give name no block -/
def plainO : LO → Prop
  | .fn _ g _ _ => ∀ e j, noBlk (g e j)
  | .arg _ g _ => ∀ e j, noBlk (g e j)
  | _ => True

theorem colO_OR {ρ : Ren} {L : List Nat} {i b : Nat} (h : L[i]? = some b) : ∀ (o : LO) (o' : Obj), colOB L o = true → plainO o → OR ρ b o o' → OR (ρ.via L) i (colO L o) o'
  | .cells c t, o', hb, _, hor => by
    obtain ⟨_, hcap, _, hoff, hwd⟩ := via_get ρ h
    obtain ⟨h0, c', h1, h2⟩ := hor
    exact ⟨hoff.trans h0, c', VRL_via c c' hb h1, h2⟩
  | .row c t z, o', hb, _, hor => by
    obtain ⟨_, hcap, _, hoff, hwd⟩ := via_get ρ h
    obtain ⟨h0, c', d', h1, h2, h3⟩ := hor
    exact ⟨hoff.trans h0, c', d', VRL_via c c' hb h1, h2, by rw [hcap]; exact h3⟩
  | .fn k g n t, o', _, hp, hor => by
    obtain ⟨_, hcap, _, hoff, hwd⟩ := via_get ρ h
    obtain ⟨h0, hk, c', d', h1, h2, h3, h4⟩ := hor
    exact ⟨hoff.trans h0, hwd.trans hk, c', d', h1, h2, by rw [hcap]; exact h3, ⟨fun e j he hj => by obtain ⟨v', g1, g2⟩ := h4.val e j he hj; exact ⟨v', g1, VR_noBlk _ _ (hp e j) g2⟩, h4.one⟩⟩
  | .arg k g n, o', _, hp, hor => hor.elim

/-- a heap of objects, from number 0 on -/
noncomputable def mkM : List (Option LO) → Nat → Tr LO → Tr LO
  | [], _, m => m
  | o :: r, i, m => mkM r (i + 1) (m.set i o)
noncomputable def mkH (os : List (Option LO)) : Heap := { m := mkM os 0 .nil, next := os.length }
theorem mkM_get : ∀ (os : List (Option LO)) (i : Nat) (m : Tr LO), i + os.length < big → ∀ j, (mkM os i m).get j = if i ≤ j ∧ j < i + os.length then (os[j - i]?).getD none else m.get j
  | [], i, m, h, j => by simp only [mkM, List.length_nil]; rw [if_neg (by omega)]
  | o :: r, i, m, h, j => by
    simp only [List.length_cons] at h ⊢
    rw [mkM, mkM_get r (i + 1) _ (by omega), Tr.get_set _ _ _ (by omega)]
    by_cases h1 : j = i
    · subst h1
      rw [if_neg (by omega), if_pos rfl, if_pos (by omega)]; simp
    · by_cases h2 : i + 1 ≤ j ∧ j < i + 1 + r.length
      · rw [if_pos h2, if_pos (by omega)]
        rw [show j - i = (j - (i + 1)) + 1 by omega]; simp
      · rw [if_neg h2, if_neg h1, if_neg (by omega)]
theorem mkH_get (os : List (Option LO)) (h : os.length < big) (j : Nat) : (mkH os).get j = (os[j]?).getD none := by
  have := mkM_get os 0 .nil (by omega) j
  simp only [Nat.zero_le, true_and, Nat.zero_add, Nat.sub_zero] at this
  show (mkM os 0 .nil).get j = _
  rw [this]
  by_cases hj : j < os.length
  · rw [if_pos hj]
  · rw [if_neg hj, Tr.get_nil, List.getElem?_eq_none (by omega)]; rfl

noncomputable def mkSt (fn : Func) (k : List KI) (dst : Option Tmp) (base : Nat) (vals : List Value) (os : List (Option LO)) : St :=
  { top := { fn := fn, t := trArgs vals 0 .nil, k := k, dst := dst }, rest := [], H := mkH os, base := base }

noncomputable def colVals (keep L : List Nat) (n : Nat) (t : Tr Value) : List Value := (List.range n).map fun i => bif memB keep i then renV (posOf L) ((t.get i).getD undef) else anyV
noncomputable def colObjs (L : List Nat) (H : Heap) : List (Option LO) := L.map fun b => match H.get b with | some o => some (colO L o) | none => none

noncomputable def collect (keep L : List Nat) (S : St) : St := mkSt S.top.fn S.top.k S.top.dst S.base (colVals keep L S.top.fn.ntmps S.top.t) (colObjs L S.H)

noncomputable def nodupB : List Nat → Bool
  | [] => true
  | x :: r => !(memB r x) && nodupB r
theorem memB_iff : ∀ (L : List Nat) (b : Nat), memB L b = true ↔ b ∈ L
  | [], b => by simp [memB]
  | x :: r, b => by
    simp only [memB, List.mem_cons]
    cases hb : Nat.beq x b with
    | true => simp [Nat.eq_of_beq_eq_true hb]
    | false =>
      have := Nat.ne_of_beq_eq_false hb
      simp only [cond_false]; rw [memB_iff r b]
      constructor
      · exact .inr
      · rintro (h | h)
        · exact absurd h.symm this
        · exact h
theorem nodupB_iff : ∀ (L : List Nat), nodupB L = true → L.Nodup
  | [], _ => List.nodup_nil
  | x :: r, h => by
    simp only [nodupB, Bool.and_eq_true, Bool.not_eq_true'] at h
    refine List.nodup_cons.2 ⟨fun hm => ?_, nodupB_iff r h.2⟩
    rw [(memB_iff r x).2 hm] at h; cases h.1

noncomputable def colB (keep L : List Nat) (S : St) : Bool :=
  S.rest.isEmpty && (nodupB L && (Nat.ble S.base L.length && (Nat.blt L.length 1000000 && (Nat.blt S.top.fn.ntmps 1000000 &&
    (((List.range S.base).all fun i => Nat.beq (L.getD i 1000000) i) && (((List.range S.top.fn.ntmps).all fun i => bif memB keep i then blks (memB L) ((S.top.t.get i).getD undef) else true) &&
      (L.all fun b => match S.H.get b with | some o => colOB L o | none => true)))))))

/-- a function that looks at no block that was there, and answers a plain value: whatever the numbers of the blocks are -/
theorem calls_blind {P : Program} {f : FuncId} {args args0 : List Value} {L : List Nat} {v : Value} (hL : L.length < 1000) (h : LCalls P f args0 (mkH (L.map fun _ => none)) (fun u _ => u = v)) (hv : plain v = true)
    (hb : blksL (memB L) args = true) (he : renL (posOf L) args = args0) {ρ : Ren} {args' : List Value} {w : World} {H : Heap} (ha : VRL ρ args args') (hr : Rep ρ H w) :
    Calls P f ⟨args'⟩ w (fun e w' => e = .returned v ∧ Below w.heap.size w w') := by
  have h1 := VRL_via args args' hb ha
  rw [he] at h1
  have hlen : (L.map fun _ => (none : Option LO)).length < big := by simp [big]; omega
  have hget : ∀ j, (mkH (L.map fun _ => none)).get j = none := by
    intro j
    rw [mkH_get _ hlen]
    simp only [List.getElem?_map]
    cases L[j]? <;> rfl
  let ρ' : Ren := ⟨(ρ.via L).b, (ρ.via L).cap, fun _ => true, (ρ.via L).off, (ρ.via L).wd⟩
  have h2 : VRL ρ' args0 args' := VRL.monoV (ρ := ρ.via L) (ρ' := ρ') (fun i b _ => ⟨rfl, rfl, rfl, rfl⟩) _ _ h1
  have hrep : Rep ρ' (mkH (L.map fun _ => none)) w := by
    refine ⟨by simp [mkH, big]; omega, fun i b hb => ?_, fun i j b o hi => (by rw [hget] at hi; cases hi), fun i o ho => (by rw [hget] at ho; cases ho), fun i o ho => (by rw [hget] at ho; cases ho), fun i k g n ho => (by rw [hget] at ho; cases ho)⟩
    have hb' : (ρ.via L) i = some b := hb
    simp only [Ren.via] at hb'
    cases hL' : L[i]? with
    | none => rw [hL'] at hb'; simp at hb'
    | some x =>
      rw [hL'] at hb'; simp only [Option.bind_some] at hb'
      exact ⟨by have := (List.getElem?_eq_some_iff.1 hL').1; simpa [mkH] using this, (hr.dom x b hb').2⟩
  refine (h ρ' args' w h2 hrep).mono ?_
  rintro e w' ⟨ρ2, u, u', H', rfl, rfl, _, _, h3, _, h5⟩
  exact ⟨by rw [plain_eq hv h3], h5.os, h5.tape, h5.output, h5.size, fun k hk => h5.block k hk (fun _ _ => rfl)⟩

/-- a contract of a plain answer, whatever the arguments' blocks are -/
def AnswersR (P : Program) (f : Nat) (c : List Value → Option (Bool × Value)) : Prop :=
  ∀ args g v, c args = some (g, v) → g = true → plain v = true ∧ ∀ (ρ : Ren) (args' : List Value) (w : World) (H : Heap), VRL ρ args args' → Rep ρ H w → Calls P f ⟨args'⟩ w (fun e w' => e = .returned v ∧ Below w.heap.size w w')

theorem Ctx.Ok.withR {P : Program} {C : Ctx} (h : C.Ok P) {f : Nat} {c : List Value → Option (Bool × Value)} (hc : AnswersR P f c) : (C.with f c).Ok P := by
  refine { toOk := h.toOk, hcon := h.hcon, con := fun k args ρ args' w H ha hr => ?_ }
  simp only [Ctx.with]
  cases hk : Nat.beq k f with
  | false => exact h.con k args ρ args' w H ha hr
  | true =>
    obtain rfl := Nat.eq_of_beq_eq_true hk
    simp only [cond_true]
    cases hca : c args with
    | none => exact trivial
    | some gv =>
      obtain ⟨g, v⟩ := gv
      refine ⟨fun hg => ?_, fun _ => trivial⟩
      obtain ⟨hv, hw⟩ := hc args g v hca hg
      exact ⟨fun ρ => plain_VR v hv, hw ρ args' w H ha hr⟩

/-- one function more, by what it reads -/
noncomputable def Ctx.withC (C : Ctx) (f : Nat) (c : Heap → List Value → ER) : Ctx :=
  { toEnv := C.toEnv, con := fun g H args => bif Nat.beq g f then c H args else C.con g H args, opq := fun g => Nat.beq g f || C.opq g, hcon := C.hcon }
theorem Ctx.Ok.withC {P : Program} {C : Ctx} (h : C.Ok P) {f : Nat} {c : Heap → List Value → ER} (hc : ∀ args ρ args' w H, VRL ρ args args' → Rep ρ H w → ConGood P f args' w (c H args)) : (C.withC f c).Ok P := by
  refine { toOk := h.toOk, hcon := h.hcon, con := fun k args ρ args' w H ha hr => ?_ }
  simp only [Ctx.withC]
  cases hk : Nat.beq k f with
  | false => exact h.con k args ρ args' w H ha hr
  | true => obtain rfl := Nat.eq_of_beq_eq_true hk; exact hc args ρ args' w H ha hr
/-- one function more, by what it makes of a heap -/
noncomputable def Ctx.withH (C : Ctx) (f : Nat) (c : Heap → List Value → ER) : Ctx :=
  { toEnv := C.toEnv, con := fun g H args => bif Nat.beq g f then .no else C.con g H args, opq := fun g => Nat.beq g f || C.opq g, hcon := fun g H args => bif Nat.beq g f then c H args else C.hcon g H args }
theorem Ctx.Ok.withH {P : Program} {C : Ctx} (h : C.Ok P) {f : Nat} {c : Heap → List Value → ER} (hc : ∀ H args, HGood P f args H (c H args)) : (C.withH f c).Ok P := by
  refine { toOk := h.toOk, con := fun k args ρ args' w H ha hr => ?_, hcon := fun k H args => ?_ }
  · simp only [Ctx.withH]
    cases hk : Nat.beq k f with
    | false => exact h.con k args ρ args' w H ha hr
    | true => exact trivial
  · simp only [Ctx.withH]
    cases hk : Nat.beq k f with
    | false => exact h.hcon k H args
    | true => obtain rfl := Nat.eq_of_beq_eq_true hk; exact hc H args

section
variable {P : Program} {Q : Value → Heap → Prop}
theorem MWp.collect (keep L : List Nat) {S : St} (hB : colB keep L S = true) (hP : ∀ o ∈ colObjs L S.H, ∀ x, o = some x → plainO x) (h : MWp P (collect keep L S) Q) : MWp P S Q := by
  simp only [colB, Bool.and_eq_true] at hB
  obtain ⟨b1, b2, b3, b4, b5, b6, b7, b8⟩ := hB
  have hrest : S.rest = [] := by cases hh : S.rest <;> simp_all
  have hnd := nodupB_iff L b2
  have hbase := Nat.le_of_ble_eq_true b3
  have hlen : L.length < 1000000 := by simpa [Nat.blt_eq] using b4
  have hnt : S.top.fn.ntmps < 1000000 := by simpa [Nat.blt_eq] using b5
  have hpre : ∀ i, i < S.base → L[i]? = some i := by
    intro i hi
    have := List.all_eq_true.1 b6 i (List.mem_range.2 hi)
    have e := Nat.eq_of_beq_eq_true this
    rw [List.getElem?_eq_getElem (by omega)]
    rw [List.getD_eq_getElem?_getD, List.getElem?_eq_getElem (by omega)] at e
    simpa using e
  intro ρ w g gs R hr hf hfs hR
  rw [hrest] at hfs
  simp only [FRL] at hfs; subst hfs
  have hlb : (colObjs L S.H).length < big := by simp [colObjs, big]; omega
  have hget : ∀ j, (mkH (colObjs L S.H)).get j = (L[j]?).bind fun b => match S.H.get b with | some o => some (colO L o) | none => none := by
    intro j
    rw [mkH_get _ hlb]
    simp only [colObjs, List.getElem?_map]
    cases L[j]? <;> rfl
  have hgot : ∀ j o, (mkH (colObjs L S.H)).get j = some o → ∃ b o0, L[j]? = some b ∧ S.H.get b = some o0 ∧ o = colO L o0 ∧ plainO o0 := by
    intro j o ho
    rw [hget] at ho
    cases hj : L[j]? with
    | none => rw [hj] at ho; simp at ho
    | some b =>
      rw [hj] at ho; simp only [Option.bind_some] at ho
      cases hb : S.H.get b with
      | none => rw [hb] at ho; simp at ho
      | some o0 =>
        rw [hb] at ho; simp only [Option.some.injEq] at ho
        refine ⟨b, o0, rfl, hb, ho.symm, ?_⟩
        have hmem : (some (colO L o0) : Option LO) ∈ colObjs L S.H := by
          simp only [colObjs, List.mem_map]
          exact ⟨b, List.mem_of_getElem? hj, by rw [hb]⟩
        have := hP _ hmem _ rfl
        cases o0 <;> first | trivial | exact this
  have hown : ∀ o, (colO L o).own = o.own := fun o => by cases o <;> rfl
  have hrep : Rep (ρ.via L) (mkH (colObjs L S.H)) w := by
    refine ⟨by simp [mkH, colObjs, big]; omega, fun i b hb => ?_, fun i j b o hi ho hj h1 h2 => ?_, fun i o ho => ?_, fun i o ho hoo => ?_, fun i k g n ho => ?_⟩
    · simp only [Ren.via] at hb
      cases hL : L[i]? with
      | none => rw [hL] at hb; simp at hb
      | some x =>
        rw [hL] at hb; simp only [Option.bind_some] at hb
        exact ⟨by have := (List.getElem?_eq_some_iff.1 hL).1; simpa [mkH, colObjs] using this, (hr.dom x b hb).2⟩
    · obtain ⟨bi, oi, e1, e2, rfl, _⟩ := hgot i o hi
      obtain ⟨oj', hoj⟩ := Option.isSome_iff_exists.1 hj
      obtain ⟨bj, oj, e3, e4, rfl, _⟩ := hgot j oj' hoj
      rw [(via_get ρ e1).1] at h1
      rw [(via_get ρ e3).1] at h2
      have := hr.inj bi bj b oi e2 (by rw [← hown]; exact ho) (by rw [e4]; rfl) h1 h2
      subst this
      have hli := (List.getElem?_eq_some_iff.1 e1).1
      exact (List.getElem?_inj hli hnd).1 (e1.trans e3.symm)
    · obtain ⟨b, o0, e1, e2, rfl, hp⟩ := hgot i o ho
      have := (List.getElem?_eq_some_iff.1 e1).1
      simpa [mkH, colObjs] using this
    · obtain ⟨b, o0, e1, e2, rfl, hp⟩ := hgot i o ho
      obtain ⟨hro, c, o', hc, hw, hor⟩ := hr.obj b o0 e2 (by rw [← hown]; exact hoo)
      have hv := via_get ρ e1
      have hcb : colOB L o0 = true := by
        have := List.all_eq_true.1 b8 b (List.mem_of_getElem? e1)
        rw [e2] at this; exact this
      exact ⟨by rw [hv.2.2.1, hro], c, o', hv.1.trans hc, hw, colO_OR e1 o0 o' hcb hp hor⟩
    · obtain ⟨b, o0, e1, e2, e3, hp⟩ := hgot i _ ho
      have e4 : o0 = .arg k g n := by cases o0 <;> simp [colO] at e3 <;> simp_all
      subst e4
      obtain ⟨hro, har⟩ := hr.arg b k g n e2
      have hv := via_get ρ e1
      refine ⟨hv.2.2.1.trans hro, hv.2.2.2.2.trans har.wd, fun e j he hj => ?_⟩
      obtain ⟨h1, c, v', hc, hcell, hvr⟩ := har.cell e j he hj
      exact ⟨h1, c, v', hv.1.trans hc, by rw [hv.2.2.2.1]; exact hcell, VR_noBlk _ _ (hp e j) hvr⟩
  have hvl : (colVals keep L S.top.fn.ntmps S.top.t).length = S.top.fn.ntmps := by simp [colVals]
  have htr : TR (ρ.via L) S.top.fn.ntmps (trArgs (colVals keep L S.top.fn.ntmps S.top.t) 0 .nil) g.a := by
    refine ⟨hf.t.size, hf.t.small, fun i => ?_, hf.t.defers⟩
    rw [trArgs_get _ 0 .nil (by rw [hvl]; unfold big; omega)]
    simp only [Nat.zero_le, true_and, Nat.zero_add, Nat.sub_zero]
    have hv := hf.t.val i
    by_cases hi : i < S.top.fn.ntmps
    · rw [if_pos (by rw [hvl]; exact hi)]
      have e : (colVals keep L S.top.fn.ntmps S.top.t)[i]? = some (bif memB keep i then renV (posOf L) ((S.top.t.get i).getD undef) else anyV) := by
        simp [colVals, hi]
      rw [e]
      simp only [Option.getD_some]
      cases hk : memB keep i with
      | false => exact VR_any _
      | true =>
        have hb := List.all_eq_true.1 b7 i (List.mem_range.2 hi)
        rw [hk] at hb; simp only [cond_true] at hb
        exact VR_via _ _ hb hv
    · rw [if_neg (by rw [hvl]; exact hi), Tr.get_nil]
      have : g.a.tmps.getD i undef = undef := by
        rw [Array.getD_eq_getD_getElem?, Array.getElem?_eq_none (by rw [hf.t.size]; omega)]; rfl
      rw [this]; exact VR_undef
  have hfr : Fresh ρ (ρ.via L) w := by
    intro i b hb
    simp only [Ren.via] at hb
    cases hL : L[i]? with
    | none => rw [hL] at hb; simp at hb
    | some x =>
      rw [hL] at hb; simp only [Option.bind_some] at hb
      exact .inr ⟨x, hb, fun e => by rw [(via_get ρ hL).2.2.1] at e; exact e⟩
  have := h (ρ.via L) w g [] R hrep ⟨hf.fn, hf.k, hf.dst, by rw [show g.a = g.a from rfl]; exact htr⟩ (by simp [Go.Ly.collect, mkSt, FRL])
    (fun ρ'' v v' H'' w'' hq h1 h2 h3 h4 h5 => hR ρ'' v v' H'' w'' hq (by
      intro i b hb
      have hi : i < S.base := by
        simp only [Ren.cut] at hb; split at hb
        · assumption
        · cases hb
      have hb' : ρ i = some b := by simp only [Ren.cut] at hb; rw [if_pos hi] at hb; exact hb
      have hv := via_get ρ (hpre i hi)
      have hc : ((ρ.via L).cut S.base) i = some b := by simp only [Ren.cut]; rw [if_pos hi, hv.1]; exact hb'
      have hs := h1 i b hc
      refine ⟨?_, hs.cap.trans hv.2.1, hs.ro.trans hv.2.2.1, hs.off.trans hv.2.2.2.1, hs.wd.trans hv.2.2.2.2⟩
      exact hs.b.trans (hc.trans hb.symm))
      (Fresh.trans (Nat.le_refl _) hfr h2) h3 h4
      ⟨h5.os, h5.tape, h5.output, h5.size, fun k hk hi => h5.block k hk (fun i e => by
        simp only [Ren.via] at e
        cases hL : L[i]? with
        | none => rw [hL] at e; simp at e
        | some x =>
          rw [hL] at e; simp only [Option.bind_some] at e
          rw [(via_get ρ hL).2.2.1]; exact hi x e)⟩)
  exact this
end
end Go.Ly
