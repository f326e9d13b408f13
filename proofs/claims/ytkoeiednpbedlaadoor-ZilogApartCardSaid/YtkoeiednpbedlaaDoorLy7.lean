/- The second framework, parts W7. -/
import Derived.Test.YtkoeiednpbedlaaDoorLyX
import Derived.KernelRfl
/- Part W7: a row of constants that is turned into bytes of a text: the row is only read behind it. -/
namespace Go.Ly
open Go.RowKit
set_option linter.unusedVariables false
set_option linter.unusedSimpArgs false
section
variable {P : Program} {E : Env} {ρ : Ren} {H : Heap} {w : World}
/-- under the next number the block b, only read -/
def Ren.see (ρ : Ren) (i b c : Nat) : Ren :=
  ⟨fun j => if j = i then some b else ρ j, fun j => if j = i then c else ρ.cap j, fun j => if j = i then true else ρ.ro j, fun j => if j = i then 0 else ρ.off j, fun j => if j = i then 1 else ρ.wd j, ρ.tok⟩
theorem see_le (hr : Rep ρ H w) (b c : Nat) : Ren.le ρ (ρ.see H.next b c) := ⟨fun j x e => by
  have : j ≠ H.next := by have := (hr.dom j x e).1; omega
  exact ⟨by simp [Ren.see, this], by simp [Ren.see, this], by simp [Ren.see, this], by simp [Ren.see, this], by simp [Ren.see, this]⟩, rfl⟩
noncomputable def convH (H : Heap) (i : Nat) (cs : List Value) : Heap :=
  { m := (H.m.set i none).set H.next (some (.arg 1 (fun e _ => cs[e]?.getD undef) cs.length)), next := H.next + 1, lock := H.lock }
theorem freeze_at (w : World) (b n : Nat) {o : Obj} (j : Nat) (h : j ≠ b) : (w.freeze ⟨b, n, none⟩ 1).heap[j]? = w.heap[j]? := by
  unfold World.freeze
  rw [if_neg (by decide)]
  show (w.heap.modify b _)[j]? = _
  rw [Array.getElem?_modify, if_neg (fun e => h e.symm)]
theorem freeze_size (w : World) (b n : Nat) : (w.freeze ⟨b, n, none⟩ 1).heap.size = w.heap.size := by
  unfold World.freeze
  rw [if_neg (by decide)]
  show (w.heap.modify b _).size = _
  rw [Array.size_modify]
theorem conv_good (hE : E.Ok P) (hr : Rep ρ H w) (hl : H.lock = 0) (hb : H.next + 1 < big) {s e t : TypeId} {i q : TI} {a n c : Nat} {cs : List Value} {x' : Value}
    (hs : E.ty.get s = some i) (hsd : i.desc = .slice e) (he : E.ty.get e = some q) (hed : q.desc = .int .u8) (ho : H.get a = some (.cells cs t)) (hc : cs.all cst = true) (hn : n ≠ 0) (hnc : n ≤ cs.length) (hcc : c ≠ capU) (hx : VR ρ (.slice (some ⟨a, 0, none⟩) n c) x') :
    Next.Good P ρ w (valued ((convert s s x').run P w)) (.mem (.slice (some ⟨H.next, 0, none⟩) n c) (convH H a cs)) := by
  obtain ⟨hu, _, _⟩ := hE.ty s i hs
  obtain ⟨hv, _, _⟩ := hE.ty e q he
  rw [hsd] at hu; rw [hed] at hv
  simp only [VR] at hx
  obtain ⟨a', c', rfl, h2, h3, h4⟩ := hx
  obtain ⟨b, hab, rfl, _⟩ := h4 hn
  have h3' := h3 hcc
  subst h3'
  obtain ⟨hro, b', o', hab', hbo, hor⟩ := hr.obj a _ ho rfl
  have hbb : b' = b := by rw [hab] at hab'; exact (Option.some.inj hab').symm
  subst hbb
  obtain ⟨hoff, c1, hv1, rfl⟩ := hor
  have hro0 : ρ.ro a = false := hro (by rw [hl]; exact Nat.zero_le _)
  have hat : ρ.at ⟨a, 0, none⟩ = 0 := by simp [Ren.at, hoff]
  have hlen : c1.length = cs.length := VRL.length hv1
  have han : a < H.next := hr.ltn a _ ho
  have hsz : b' < w.heap.size := (hr.dom a b' hab).2
  have hget : ∀ j, (convH H a cs).get j = if j = H.next then some (.arg 1 (fun e _ => cs[e]?.getD undef) cs.length) else if j = a then none else H.get j := by
    intro j
    show ((H.m.set a none).set H.next _).get j = _
    rw [Tr.get_set _ _ _ (by unfold big at *; omega) j]
    by_cases hj : j = H.next
    · simp [hj]
    · rw [if_neg hj, if_neg hj, Tr.get_set _ _ _ (by unfold big at *; omega) j]; rfl
  let w' := w.freeze ⟨b', c1.length, none⟩ 1
  have hw' : ∀ j, j ≠ b' → w'.heap[j]? = w.heap[j]? := fun j hj => freeze_at w b' _ (o := .cells ⟨c1⟩ t (0, 0)) j hj
  have hwb : ∀ p : Addr, p.block = b' → w'.cell? p = w.cell? p := fun p hp => by
    unfold World.cell?
    have : w'.heap[b']? = some (.cells ⟨c1⟩ t (c1.length, c1.length + 1)) := by
      show (w.freeze _ 1).heap[b']? = _
      unfold World.freeze
      rw [if_neg (by decide)]
      show (w.heap.modify b' _)[b']? = _
      rw [Array.getElem?_modify, if_pos rfl, hbo]
      rfl
    rw [hp, this, hbo]
  have hrun : (convert s s (.slice (some ⟨b', ρ.at ⟨a, 0, none⟩, none⟩) n c')).run P w = .ok (.slice (some ⟨b', ρ.at ⟨a, 0, none⟩, none⟩) n c') w' := by
    have hsh : w.shape? b' = some (t, c1.length) := by unfold World.shape?; rw [hbo]; rfl
    simp [convert, run_underlying hu, run_underlying hv, markStringish, hsh]
    rfl
  refine ⟨ρ.see H.next b' c', _, w', see_le hr b' c', ?f, ?_, by rw [hrun]; rfl, ⟨hb, ?_, ?_, ?_, ?_, ?_, hr.fix.step ?f ⟨rfl, rfl, rfl, by rw [freeze_size]; exact Nat.le_refl _, ?k⟩⟩, ⟨rfl, rfl, rfl, by rw [freeze_size]; exact Nat.le_refl _, ?k⟩⟩
  · intro j x hx
    simp only [Ren.see] at hx
    by_cases hj : j = H.next
    · rw [if_pos hj] at hx
      simp only [Option.some.injEq] at hx; subst hx
      exact .inr ⟨a, hab, fun h => by simp [Ren.see, hj] at h⟩
    · rw [if_neg hj] at hx
      exact .inr ⟨j, hx, fun h => by simpa [Ren.see, hj] using h⟩
  · simp only [VR]
    exact ⟨⟨b', ρ.at ⟨a, 0, none⟩, none⟩, c', rfl, h2, fun _ => rfl, fun _ => ⟨b', by simp [Ren.see], by rw [hat]; simp [Ren.at, Ren.see], fun hh => absurd hh hcc⟩⟩
  · intro j x hx
    simp only [Ren.see] at hx
    show j < H.next + 1 ∧ x < w'.heap.size
    rw [freeze_size]
    by_cases hj : j = H.next
    · rw [if_pos hj] at hx
      simp only [Option.some.injEq] at hx; subst hx
      exact ⟨by omega, hsz⟩
    · rw [if_neg hj] at hx
      have := hr.dom j x hx
      exact ⟨by omega, this.2⟩
  · intro j k x o hj hoo hk h1 h2
    rw [hget] at hj hk
    have hjn : j ≠ H.next := by
      intro e; rw [if_pos e] at hj; simp only [Option.some.injEq] at hj; subst hj; cases hoo
    rw [if_neg hjn] at hj
    have hja : j ≠ a := by intro e; rw [if_pos e] at hj; cases hj
    rw [if_neg hja] at hj
    have h1' : ρ j = some x := by simpa [Ren.see, hjn] using h1
    by_cases hkn : k = H.next
    · have : x = b' := by have : (ρ.see H.next b' c') k = some b' := by simp [Ren.see, hkn]
                          rw [this] at h2; exact (Option.some.inj h2).symm
      subst this
      exact absurd (hr.inj j a x o hj hoo (by rw [ho]; rfl) h1' hab) hja
    · rw [if_neg hkn] at hk
      have hka : k ≠ a := by intro e; rw [if_pos e] at hk; cases hk
      rw [if_neg hka] at hk
      exact hr.inj j k x o hj hoo hk h1' (by simpa [Ren.see, hkn] using h2)
  · intro j o hj
    rw [hget] at hj
    show j < H.next + 1
    by_cases hjn : j = H.next
    · omega
    · rw [if_neg hjn] at hj
      by_cases hja : j = a
      · omega
      · rw [if_neg hja] at hj
        have := hr.ltn j o hj; omega
  · intro j o hj hoo
    rw [hget] at hj
    have hjn : j ≠ H.next := by
      intro e; rw [if_pos e] at hj; simp only [Option.some.injEq] at hj; subst hj; cases hoo
    rw [if_neg hjn] at hj
    have hja : j ≠ a := by intro e; rw [if_pos e] at hj; cases hj
    rw [if_neg hja] at hj
    obtain ⟨k1, x, o', k2, k3, k4⟩ := hr.obj j o hj hoo
    have hxb : x ≠ b' := by
      intro e; subst e
      exact hja (hr.inj j a x o hj hoo (by rw [ho]; rfl) k2 hab)
    refine ⟨fun hlk => by simpa [Ren.see, hjn] using k1 hlk, x, o', by simpa [Ren.see, hjn] using k2, by rw [hw' x hxb]; exact k3, OR.mono (see_le hr b' c') (by simp [Ren.see, hjn]) (by simp [Ren.see, hjn]) (by simp [Ren.see, hjn]) o o' k4⟩
  · intro j k g m hj
    rw [hget] at hj
    by_cases hjn : j = H.next
    · rw [if_pos hjn] at hj
      simp only [Option.some.injEq, LO.arg.injEq] at hj
      obtain ⟨rfl, rfl, rfl⟩ := hj
      subst hjn
      refine ⟨by simp [Ren.see], ⟨by simp [Ren.see], fun e j he hj => ?_⟩⟩
      obtain rfl : j = 0 := by omega
      have hce : cs[e]? = some cs[e] := List.getElem?_eq_getElem he
      obtain ⟨v1, hv2, hv3⟩ := VRL.get hv1 e _ hce
      have hcst : cst cs[e] = true := by rw [List.all_eq_true] at hc; exact hc _ (List.getElem_mem he)
      refine ⟨by rw [hce]; exact hcst, b', v1, by simp [Ren.see], ?_, ?_⟩
      · rw [hwb _ rfl]
        unfold World.cell?
        rw [hbo]
        simp [Ren.see]
        exact hv2
      · rw [hce]; exact VR.mono (see_le hr b' c') _ _ hv3
    · rw [if_neg hjn] at hj
      have hja : j ≠ a := by intro e; rw [if_pos e] at hj; cases hj
      rw [if_neg hja] at hj
      obtain ⟨k1, k2⟩ := hr.arg j k g m hj
      refine ⟨by simpa [Ren.see, hjn] using k1, ⟨by simpa [Ren.see, hjn] using k2.wd, fun e jj he hjj => ?_⟩⟩
      obtain ⟨m1, x, v', m2, m3, m4⟩ := k2.cell e jj he hjj
      refine ⟨m1, x, v', by simpa [Ren.see, hjn] using m2, ?_, VR.mono (see_le hr b' c') _ _ m4⟩
      by_cases hxb : x = b'
      · rw [show (ρ.see H.next b' c').off j = ρ.off j by simp [Ren.see, hjn], hwb _ hxb]; exact m3
      · rw [show (ρ.see H.next b' c').off j = ρ.off j by simp [Ren.see, hjn], ← m3]
        unfold World.cell?
        rw [hw' x hxb]
  · intro k hk hro
    refine hw' k fun e => ?_
    subst e
    have := hro a hab
    rw [hro0] at this; cases this
/-- the next operation turns a row into bytes: its type, block, length, room -/
noncomputable def opConv (E : Env) (S : St) : Option (TypeId × Nat × Nat × Nat) :=
  match S.top.k with
  | .ops all (o :: l) :: k =>
    bif guardB all S.top.t S.top.fn.ntmps o && dstOk S.top.fn.ntmps o.dst then
      (match o.op with
      | .convert s d x => match evx S.top.t x with
        | some (.slice (some ⟨a, 0, none⟩) n c) => bif Nat.beq s d then some (s, a, n, c) else none
        | _ => none
      | _ => none)
    else none
  | _ => none
noncomputable def isBytes (E : Env) (s : TypeId) : Bool := match E.ty.get s with
  | some i => match i.desc with
    | .slice e => match E.ty.get e with
      | some q => match q.desc with | .int .u8 => true | _ => false
      | none => false
    | _ => false
  | none => false
theorem MWp.conv {Q : Value → Heap → Prop} (hE : E.Ok P) {S : St} {s a n c t : Nat} {cs : List Value} (h : opConv E S = some (s, a, n, c)) (hty : isBytes E s = true) (hl : S.H.lock = 0) (hb : S.H.next + 1 < big)
    (ho : S.H.get a = some (.cells cs t)) (hc : cs.all cst = true) (hn : n ≠ 0) (hnc : n ≤ cs.length) (hcc : c ≠ capU)
    (hs : MWp P (behind S (.slice (some ⟨S.H.next, 0, none⟩) n c) (convH S.H a cs)) Q) : MWp P S Q := by
  unfold opConv at h
  split at h
  · rename_i all o l k hk
    cases hcd : (guardB all S.top.t S.top.fn.ntmps o && dstOk S.top.fn.ntmps o.dst) with
    | false => rw [hcd] at h; cases h
    | true =>
      rw [hcd] at h; simp only [cond_true] at h
      simp only [Bool.and_eq_true] at hcd
      split at h
      · rename_i s1 d x hop
        split at h
        · rename_i a1 n1 c1 hev
          cases hsd : Nat.beq s1 d with
          | false => rw [hsd] at h; cases h
          | true =>
            rw [hsd] at h
            simp only [cond_true, Option.some.injEq, Prod.mk.injEq] at h
            obtain ⟨rfl, rfl, rfl, rfl⟩ := h
            have hsd' := Nat.eq_of_beq_eq_true hsd
            subst hsd'
            unfold isBytes at hty
            split at hty
            · rename_i i hi
              split at hty
              · rename_i e hid
                split at hty
                · rename_i q hq
                  split at hty
                  · rename_i hqd
                    intro ρ w g gs R hr hf hfs hR
                    unfold stateWp
                    rw [hf.k, hk]
                    show wpList P all _ (o :: l) g.a w
                    unfold wpList
                    rw [guardB_wanted P hf hcd.1, if_pos rfl]
                    left
                    have hgood := conv_good (P := P) hE hr hl hb hi hid hq hqd ho hc hn hnc hcc (evx_VR hf.t hev)
                    obtain ⟨ρ', v', w', h1, h2, h3, h4, h5, h6⟩ := hgood
                    unfold Oper.wp
                    have hrun : (execOp g.a.eval o).run P w = .ok (.value v') w' := by
                      rw [← h4]
                      unfold execOp
                      rw [hop]
                      exact run_v _
                    rw [hrun]
                    simp only [Oper.upon]
                    refine putFr_sound (S := S) (Q := Q) (v := .slice (some ⟨S.H.next, 0, none⟩) n1 c1) (H' := convH S.H a1 cs) (k := .ops all l :: k) (dst := o.dst) ?_ hf hfs h1 h2 h5 h6 h3 hR
                    unfold putFr
                    rw [hcd.2]
                    unfold behind at hs
                    rw [hk] at hs
                    exact hs
                  · cases hty
                · cases hty
              · cases hty
            · cases hty
        · cases h
      · cases h
  · cases h
end
end Go.Ly
