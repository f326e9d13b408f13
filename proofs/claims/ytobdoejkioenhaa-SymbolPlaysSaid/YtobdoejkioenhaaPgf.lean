/- Part 6 of the texts that the law needs, laid together. By program (pack.py). -/
import Derived.Test.YtobdoejkioenhaaPge
import Derived.KernelRfl
set_option linter.unusedVariables false
set_option linter.unusedSimpArgs false
noncomputable section
namespace Go.Proofs.Ytobdoejkioenhaa
open Go Go.Ly Go.RowKit
section
variable {f : FuncId} {rest : List Value} {n r : Nat} {G : Nat → Nat → Value} {H : Heap}
theorem row_fits (hl : H.lock = 0) (hn : H.next + 20 < 2147483000) (hg : H.get r = some (.fn 3 G n 24)) : Fits (fun _ => r) (mkH (puO G n)) H := by
  have hnext : (mkH (puO G n)).next = 1 := rfl
  have hs0 : (mkH (puO G n)).get 0 = some (.fn 3 G n 24) := by kernel_rfl
  have hsd : ∀ i o, (mkH (puO G n)).get i = some o → i < 1 := fun i o h => by
    rcases Nat.lt_or_ge i 1 with h1 | h1
    · exact h1
    · rw [mkH_get _ (by show 1 < big; unfold big; omega), List.getElem?_eq_none (by exact h1)] at h; cases h
  refine ⟨by rw [hnext]; unfold big; omega, hl, fun i hi => ?_, fun i o h => by rw [hnext]; exact hsd i o h, fun i o h => ?_, fun i j hi hj h => ?_⟩
  · rw [hnext] at hi
    obtain rfl : i = 0 := by omega
    exact ⟨_, hs0⟩
  · have := hsd i o h
    obtain rfl : i = 0 := by omega
    rw [hs0] at h; obtain rfl := Option.some.inj h
    exact hg
  · rw [hnext] at hi hj; omega
theorem row_args (hrest : plainR rest) : renL (ext (fun _ => r) (mkH (puO G n)).next H.next) (sls 0 n :: rest) = sls r n :: rest := by
  show renV _ (sls 0 n) :: renL _ rest = _
  rw [plainR_ren hrest]
  have e0 : ext (fun _ => r) (mkH (puO G n)).next H.next 0 = r := by rw [ext_lt (by show 0 < 1; omega)]
  simp only [sls, renV, e0]
theorem row_same {x : Int} (hl : H.lock = 0) (hn : H.next + 20 < 2147483000) (hg : H.get r = some (.fn 3 G n 24)) (hrest : plainR rest)
    (h : LCalls Try.prog f (sls 0 n :: rest) (mkH (puO G n)) (fun u K => u = erE n x ∧ K.next = 1 ∧ K.get 0 = some (.fn 3 G n 24) ∧ K.lock = 0)) :
    LCalls Try.prog f (sls r n :: rest) H (fun u K => u = .tuple ⟨[sls r n, .int .i64 x]⟩ ∧ K = H) := by
  have hnext : (mkH (puO G n)).next = 1 := rfl
  have e0 : ext (fun _ => r) 1 H.next 0 = r := by rw [ext_lt (by omega)]
  have hf := LCalls.frame (H := H) (σ := fun _ => r) (Q := fun u K => u = .tuple ⟨[sls r n, .int .i64 x]⟩ ∧ K = H) h (row_fits hl hn hg) (by
    rintro vs Hs' ⟨rfl, k1, k2, k3⟩
    refine ⟨_, ⟨k3, by rw [hnext]; omega, by rw [hnext, k1]; show H.next + (1 - 1) ≤ H.next; omega, by unfold big; omega, fun k o ho => ?_⟩, by rw [hnext]; simp only [erE, sls, renV, renL, e0], rfl⟩
    rw [hnext]
    by_cases er : k = r
    · subst er
      rw [hg] at ho
      exact .inl ⟨0, _, e0, k2, (Option.some.inj ho).symm⟩
    · refine .inr ⟨fun i hi e => er e.symm, ho⟩)
  rw [row_args hrest] at hf
  exact hf
def newR (H : Heap) (t' : Tb) (b : Nat) : Heap := { m := H.m.set (H.next + (b - 1)) (some (.fn 3 (rowT t') t'.sz 24)), next := H.next + b, lock := H.lock }
theorem row_new {t' : Tb} {b : Nat} (hl : H.lock = 0) (hn : H.next + 20 < 2147483000) (hrl : r < H.next) (hg : H.get r = some (.fn 3 G n 24)) (hrest : plainR rest) (hb : 1 ≤ b) (hb2 : b ≤ 10)
    (h : LCalls Try.prog f (sls 0 n :: rest) (mkH (puO G n)) (fun u K => u = .tuple ⟨[sls b t'.sz, .int .i64 0]⟩ ∧ K.next = b + 1 ∧ K.get 0 = some (.fn 3 G n 24) ∧ K.get b = some (.fn 3 (rowT t') t'.sz 24) ∧ K.lock = 0)) :
    LCalls Try.prog f (sls r n :: rest) H (fun u K => u = .tuple ⟨[sls (H.next + (b - 1)) t'.sz, .int .i64 0]⟩ ∧ K = newR H t' b) := by
  have hnext : (mkH (puO G n)).next = 1 := rfl
  have e0 : ext (fun _ => r) 1 H.next 0 = r := by rw [ext_lt (by omega)]
  have eb : ext (fun _ => r) 1 H.next b = H.next + (b - 1) := by rw [ext_ge (by omega)]
  have hgetK : ∀ k, (newR H t' b).get k = if k = H.next + (b - 1) then some (.fn 3 (rowT t') t'.sz 24) else H.get k := fun k => Tr.get_set _ _ _ (by unfold big; omega) k
  have hf := LCalls.frame (H := H) (σ := fun _ => r) (Q := fun u K => u = .tuple ⟨[sls (H.next + (b - 1)) t'.sz, .int .i64 0]⟩ ∧ K = newR H t' b) h (row_fits hl hn hg) (by
    rintro vs Hs' ⟨rfl, k1, k2, k3, k4⟩
    refine ⟨_, ⟨k4, by rw [hnext]; omega, by rw [hnext, k1]; show H.next + (b + 1 - 1) ≤ H.next + b; omega, by show H.next + b < big; unfold big; omega, fun k o ho => ?_⟩, by rw [hnext]; simp only [sls, renV, renL, eb], rfl⟩
    rw [hnext]
    rw [hgetK] at ho
    by_cases e : k = H.next + (b - 1)
    · rw [if_pos e] at ho
      exact .inl ⟨b, _, by rw [eb, e], k3, (Option.some.inj ho).symm⟩
    · rw [if_neg e] at ho
      by_cases er : k = r
      · subst er
        rw [hg] at ho
        exact .inl ⟨0, _, e0, k2, (Option.some.inj ho).symm⟩
      · exact .inr ⟨fun i hi e => er e.symm, ho⟩)
  rw [row_args hrest] at hf
  exact hf
end
theorem cst_rowT (t : Tb) (e j : Nat) (hj : j < 3) : cst (rowT t e j) = true := by rcases j3 hj with rfl | rfl | rfl <;> rfl
theorem nil_new {f : FuncId} {args : List Value} {b : Nat} {s : ByteArray} {v h : Int} {G : Nat → Nat → Value} {H : Heap} (hn : H.next + 20 < 2147483000)
    (hL : LCalls Try.prog f args (mkH []) (fun u K => u = .tuple ⟨[sl b 1, .int .i64 0]⟩ ∧ K.get b = some (.row (puL s v h) 24 3) ∧ K.lock = 0)) (hG : ∀ j, j < 3 → G 0 j = ((puL s v h)[j]?).getD undef) (hc : ∀ j, j < 3 → cst (G 0 j) = true)
    (ha : ∀ (ρ : Ly.Ren) args', VRL ρ args args' → args' = args) (ha2 : ∀ ρ, VRL ρ args args) : HGood Try.prog f args H (.mem (.tuple ⟨[sls H.next 1, .int .i64 0]⟩) (H.new (.fn 3 G 1 24))) := by
  intro ρ args' w hargs hr
  haveI := hr.fix.w
  obtain rfl := ha ρ args' hargs
  refine (hL (rowsRen []) args' w (ha2 _) (rows_rep (rs := []) rfl (by simp) (by simp) (by simp))).mono ?_
  rintro e w' ⟨ρ2, u, u', K, rfl, ⟨rfl, hK, hlk⟩, h1, h2, h3, h4, h5⟩
  have hbel : Below w.heap.size w w' := ⟨h5.os, h5.tape, h5.output, h5.size, fun k hk => h5.block k hk (fun i _ => rfl)⟩
  obtain ⟨q1, b', o', q2, q3, q4⟩ := h4.obj b _ hK rfl
  have hro2 : ρ2.ro b = false := q1 (by rw [hlk]; exact Nat.zero_le _)
  have hbnew : w.heap.size ≤ b' := by
    rcases h2 b b' q2 with h6 | ⟨j, _, h6⟩
    · exact h6
    · have := h6 hro2; cases this
  have hrB := hr.below hbel
  have hnone : ∀ i, ρ i ≠ some b' := fun i e => by have := (hr.dom i b' e).2; omega
  obtain ⟨z1, c', d', z2, z3, z4⟩ := q4
  have hc' : c' = puL s v h := by
    simp only [puL, VRL, VR] at z2
    obtain ⟨_, _, rfl, ⟨_, _, rfl, ⟨_, _, rfl, rfl, rfl⟩, rfl⟩, rfl⟩ := z2
    rfl
  subst hc'
  have hnb : H.next + 1 < big := by unfold big; omega
  have hOR : OR (ρ.ext H.next b' (ρ2.cap b) 3) H.next (.fn 3 G 1 24) o' := by
    refine ⟨by simp [Ly.Ren.ext], by simp [Ly.Ren.ext], puL s v h, d', z3, rfl, by simp [Ly.Ren.ext]; simpa using z4, fun e j he hj => ?_, fun e j he hj => ?_⟩
    · obtain rfl : e = 0 := by omega
      refine ⟨G 0 j, ?_, plain_VR _ ?_⟩
      · rw [hG j hj]
        rcases j3 hj with rfl | rfl | rfl <;> rfl
      · rw [hG j hj]
        rcases j3 hj with rfl | rfl | rfl <;> rfl
    · obtain rfl : e = 0 := by omega
      exact hc j hj
  have hRep := hrB.extNew (k := ρ2.cap b) (wd := 3) hnb rfl (h4.dom b b' q2).2 hnone q3 hOR (by
    cases hf : fixed b' with
    | none => rfl
    | some o => have := hr.fix.lt hf; omega)
  refine ⟨ρ.ext H.next b' (ρ2.cap b) 3, _, _, _, rfl, ⟨rfl, rfl⟩, hr.ext_le _ _ _, fun i x hx => ?_, ?_, hRep, Below.toKeep hbel⟩
  · simp only [Ly.Ren.ext] at hx
    split at hx
    · simp at hx; subst hx; exact .inl hbnew
    · rename_i e; exact .inr ⟨i, hx, by simp [Ly.Ren.ext, e]⟩
  · simp only [VR, VRL, sl] at h3
    obtain ⟨ys, h3, rfl⟩ := h3
    obtain ⟨_, _, ⟨a', c2, rfl, y1, y2, y3⟩, ⟨_, _, rfl, rfl, rfl⟩, rfl⟩ := h3
    simp only [VR, VRL, sls]
    refine ⟨_, ⟨_, _, ⟨a', c2, rfl, y1, y2, fun hN => ?_⟩, ⟨_, _, rfl, rfl, rfl⟩, rfl⟩, rfl⟩
    obtain ⟨b2, x1, x2, x3⟩ := y3 hN
    have hbb : b2 = b' := by
      have x1' : ρ2 b = some b2 := x1
      rw [q2] at x1'; simp at x1'; exact x1'.symm
    subst hbb
    refine ⟨b2, by simp [Ly.Ren.ext], ?_, ?_⟩
    · rw [x2]; simp [Ly.Ren.at, Ly.Ren.ext, z1]
    · intro hc _
      have := x3 hc (by simp [Ly.Ren.at, z1])
      simpa [Ly.Ren.ext] using this
def rowOk (G : Nat → Nat → Value) (n : Nat) (s : ByteArray) : Prop := s.size ≤ 1000000 ∧ KeyG (tbR G n).has n ∧ keyOk (tbR G n).has n ∧ G = rowT (tbR G n)
def newE (H : Heap) (t' : Tb) (b : Nat) : ER := .mem (.tuple ⟨[sls (H.next + (b - 1)) t'.sz, .int .i64 0]⟩) (newR H t' b)
def rputN (H : Heap) (s : ByteArray) (v h : Int) : ER := bif Nat.blt (H.next + 20) 2147483000 then .tst (Nat.ble s.size 1000000) (.tst (putK tE s h == 0) (.mem (.tuple ⟨[sls H.next 1, .int .i64 0]⟩) (H.new (.fn 3 (rowT (putU tE s v h)) 1 24))) (.val (.tuple ⟨[.slice none 0 0, .int .i64 (putK tE s h)]⟩))) .no else .no
def rputR (H : Heap) (r n m : Nat) (G : Nat → Nat → Value) (s : ByteArray) (v h : Int) : ER := .tst (propB (n = m ∧ rowOk G n s)) (.tst (putK (tbR G n) s h == 0) (.tst ((tbR G n).has s) (newE H (putU (tbR G n) s v h) 2) (.tst (Nat.beq (insN (fun e => keyAt (tbR G n).has e) n s) 0) (newE H (putU (tbR G n) s v h) 4) (newE H (putU (tbR G n) s v h) 5))) (.mem (.tuple ⟨[sls r n, .int .i64 (putK (tbR G n) s h)]⟩) H)) .no
def rputE (H : Heap) (args : List Value) : ER :=
  match args with
  | [.slice none 0 0, .string s, .int .u16 v, .int .i64 h] => rputN H s v h
  | [.slice (some ⟨r, 0, some 0⟩) n c, .string s, .int .u16 v, .int .i64 h] =>
    match H.get r with
    | some (.fn 3 G m 24) => bif Nat.beq H.lock 0 && (Nat.blt (H.next + 20) 2147483000 && (Nat.blt r H.next && Nat.beq c 18446744073709551616)) then rputR H r n m G s v h else .no
    | _ => .no
  | _ => .no
theorem gPu : ctxP.fn.get 10 = some Try.f10 := by kernel_rfl
theorem putK_E {s : ByteArray} {h : Int} : putK tE s h = bif !nameB s || !strEq (upS s) s then 2 else bif decide (h < 1) || decide (3 < h) then 1 else 0 := by
  unfold putK
  show (bif _ then _ else bif _ then _ else bif false then _ else bif decide ((2048 : Int) ≤ 0) then _ else _) = _
  rfl
theorem nil_err {s : ByteArray} {v h k : Int} {H : Heap} {p : Path} {te : List (Bool × Bool)} (he : endsAt [] (Ly.run ctxP 300 p (pnS s v h)) = some (te, erN k, 0, [])) (ht : trusted te) :
    HGood Try.prog 10 [.slice none 0 0, .string s, .int .u16 v, .int .i64 h] H (.val (erN k)) := by
  refine nil_val (LCalls_of ctxP_ok gPu (by kernel_rfl) ((MWp.ends ctxP_ok 300 p he ht).mono fun u K h => h.1)) (by simp [plain, plainL, erN]) (fun ρ => by simp [VR, VRL, erN]) (fun ρ args' h => by simp only [VRL, VR] at h; obtain ⟨_, _, rfl, ⟨_, _, rfl, ⟨_, _, rfl, ⟨_, _, rfl, rfl, rfl⟩, rfl⟩, rfl⟩, rfl⟩ := h; rfl) (fun ρ => by simp [VRL, VR])
theorem rput_good (H : Heap) (args : List Value) : HGood Try.prog 10 args H (rputE H args) := by
  unfold rputE
  split
  · rename_i s v h
    unfold rputN
    cases hn : Nat.blt (H.next + 20) 2147483000 with
    | false => exact trivial
    | true =>
    simp only [cond_true]
    have hn' : H.next + 20 < 2147483000 := by simpa [Nat.blt_eq] using hn
    refine ⟨fun hs => ⟨fun h0 => ?_, fun h0 => ?_⟩, fun _ => trivial⟩
    · have hss := Nat.le_of_ble_eq_true hs
      have h0 : putK tE s h = 0 := by simpa using h0
      rw [putK_E] at h0
      have hb : nameB s = true := by
        cases hb : nameB s with
        | true => rfl
        | false => rw [hb] at h0; cases h0
      have hu : strEq (upS s) s = true := by
        cases hu : strEq (upS s) s with
        | true => rfl
        | false => rw [hb, hu] at h0; cases h0
      have g1 : ¬ h < 1 := fun g1 => by rw [hb, hu, decide_eq_true g1] at h0; cases h0
      have g3 : ¬ 3 < h := fun g3 => by rw [hb, hu, decide_eq_true g3, decide_eq_false g1] at h0; cases h0
      have hk : KeyG tE.has tE.sz := by
        have : KeyL tE.has [] := ⟨List.nodup_nil, fun x => by simp [tE]⟩
        exact keyG_of this
      have hrow : ∀ j, j < 3 → rowT (putU tE s v h) 0 j = ((puL s v h)[j]?).getD undef := fun j hj => by
        rw [row_ins (k := 0) hk rfl (Nat.zero_le _) (fun e h => by omega) (fun h => by cases h) 0 j (by omega) hj]
        rcases j3 hj with rfl | rfl | rfl <;> rfl
      refine nil_new (b := 3) (s := s) (v := v) (h := h) hn' ?_ hrow (fun j hj => cst_rowT _ 0 j hj) (fun ρ args' h => by simp only [VRL, VR] at h; obtain ⟨_, _, rfl, ⟨_, _, rfl, ⟨_, _, rfl, ⟨_, _, rfl, rfl, rfl⟩, rfl⟩, rfl⟩, rfl⟩ := h; rfl) (fun ρ => by simp [VRL, VR])
      refine LCalls_of ctxP_ok gPu (by kernel_rfl) ((MWp.ends ctxP_ok 300 _ (pnE s v h) (tr_app2 (puT_ok hss hb hu g1 g3) ⟨by unfold pnG; rw [propB_iff.2 isSym0]; rfl, trivial⟩)).mono ?_)
      rintro u K ⟨rfl, h1, h2, h3⟩
      simp only [List.map_cons, List.map_nil, List.cons.injEq, and_true] at h2
      exact ⟨rfl, h2, h3⟩
    · have hss := Nat.le_of_ble_eq_true hs
      have h0 : putK tE s h ≠ 0 := by simpa using h0
      rw [putK_E] at h0 ⊢
      cases hb : nameB s with
      | false => exact nil_err (pnA s v h) ⟨by rw [hb]; rfl, trivial⟩
      | true =>
      cases hu : strEq (upS s) s with
      | false => exact nil_err (pnB s v h) ⟨by rw [hb]; rfl, hs, by rw [hu]; rfl, trivial⟩
      | true =>
      by_cases g1 : h < 1
      · rw [decide_eq_true g1]
        exact nil_err (pnC s v h) ⟨by rw [hb]; rfl, hs, by rw [hu]; rfl, by rw [decide_eq_true g1]; rfl, trivial⟩
      by_cases g3 : 3 < h
      · rw [decide_eq_true g3, decide_eq_false g1]
        exact nil_err (pnD s v h) ⟨by rw [hb]; rfl, hs, by rw [hu]; rfl, by rw [decide_eq_false g1]; rfl, decide_eq_true g3, trivial⟩
      rw [hb, hu, decide_eq_false g1, decide_eq_false g3] at h0
      exact absurd rfl h0
  · rename_i r n c s v h
    split
    · rename_i G m hg
      cases hc : (Nat.beq H.lock 0 && (Nat.blt (H.next + 20) 2147483000 && (Nat.blt r H.next && Nat.beq c 18446744073709551616))) with
      | false => exact trivial
      | true =>
      simp only [cond_true]
      simp only [Bool.and_eq_true] at hc
      have hl := Nat.eq_of_beq_eq_true hc.1
      have hn : H.next + 20 < 2147483000 := by simpa [Nat.blt_eq] using hc.2.1
      have hrl : r < H.next := by simpa [Nat.blt_eq] using hc.2.2.1
      obtain rfl := Nat.eq_of_beq_eq_true hc.2.2.2
      have hrest : plainR [.string s, .int .u16 v, .int .i64 h] := ⟨fun f => by simp [renV], fun f => by simp [renV], fun f => by simp [renV], trivial⟩
      unfold rputR
      refine ⟨fun hok => ?_, fun _ => trivial⟩
      obtain ⟨rfl, hss, hk, hkey, hG⟩ := propB_iff.1 hok
      have hk : KeyG (tbR G n).has (tbR G n).sz := hk
      have hkey : keyOk (tbR G n).has (tbR G n).sz := hkey
      have hS : ∀ {Q : Value → Heap → Prop}, MWp Try.prog (puS (rowT (tbR G n)) (tbR G n).sz s v h) Q → LCalls Try.prog 10 (sls 0 n :: [.string s, .int .u16 v, .int .i64 h]) (mkH (puO G n)) Q := fun hM => by
        refine LCalls_of ctxP_ok gPu (by kernel_rfl) ?_
        show MWp Try.prog (puS G n s v h) _
        rw [← hG] at hM; exact hM
      have hok0 : ∀ (b : Nat), puNb (tbR G n) s = b → 1 ≤ b → b ≤ 10 → putK (tbR G n) s h = 0 → HGood Try.prog 10 [.slice (some ⟨r, 0, some 0⟩) n 18446744073709551616, .string s, .int .u16 v, .int .i64 h] H (newE H (putU (tbR G n) s v h) b) := fun b hb h1 h2 h0 => by
        refine row_new hl hn hrl hg hrest h1 h2 (hS ?_)
        rw [← hb]
        refine (pu_ok hk hkey hss h0).mono fun u K hq => ?_
        obtain ⟨q1, q2, q3, q4, q5⟩ := hq
        exact ⟨q1, q2, by rw [q3, ← hG]; rfl, q4, q5⟩
      refine ⟨fun h0 => ⟨fun hh => ?_, fun hh => ⟨fun hi => ?_, fun hi => ?_⟩⟩, fun h0 => ?_⟩
      · exact hok0 2 (by unfold puNb; rw [hh]; rfl) (by omega) (by omega) (by simpa using h0)
      · exact hok0 4 (by unfold puNb; rw [hh]; show (bif Nat.beq (insN (fun e => keyAt (tbR G n).has e) n s) 0 then 4 else 5) = 4; rw [hi]; rfl) (by omega) (by omega) (by simpa using h0)
      · exact hok0 5 (by unfold puNb; rw [hh]; show (bif Nat.beq (insN (fun e => keyAt (tbR G n).has e) n s) 0 then 4 else 5) = 5; rw [hi]; rfl) (by omega) (by omega) (by simpa using h0)
      · refine row_same hl hn hg hrest (hS ?_)
        refine (pu_err hk hkey hss (by simpa using h0)).mono fun u K hq => ?_
        obtain ⟨q1, q2, q3, q4⟩ := hq
        exact ⟨q1, q2, by rw [q3, ← hG]; rfl, q4⟩
    · exact trivial
  · exact trivial
end Go.Proofs.Ytobdoejkioenhaa
namespace Go.Ly
open Go Go.RowKit
section
variable {P : Program}
def rowNewF (k : Nat) (mk : Nat → (Nat → Nat → Value) → List Value → Bool × Nat × (Nat → Nat → Value)) (k' : Nat) (t : TypeId) (H : Heap) (args : List Value) : ER :=
  match args with
  | x :: rest =>
    match srcR H k x with
    | some (g1, u) => bif Nat.beq H.lock 0 && Nat.blt (H.next + 1) 2147483000 then
        .tst (g1 && (u.csts && (plainL rest && (mk u.n (u.fun k) rest).1))) (.tst (Nat.beq (mk u.n (u.fun k) rest).2.1 0) (.val (.slice none 0 0)) (.mem (sls H.next (mk u.n (u.fun k) rest).2.1) (H.new (.fn k' (mk u.n (u.fun k) rest).2.2 (mk u.n (u.fun k) rest).2.1 t)))) .no else .no
    | none => .no
  | _ => .no
theorem rowNewF_good {k k' : Nat} {t : TypeId} {f : FuncId} {mk : Nat → (Nat → Nat → Value) → List Value → Bool × Nat × (Nat → Nat → Value)}
    (hS : ∀ n G r, plainL r = true → (mk n G r).1 = true → (mk n G r).2.1 ≠ 0 → ∃ q, LCalls P f (sls 0 n :: r) (mkH [some (.arg k G n)]) (fun u K => u = sls q (mk n G r).2.1 ∧ K.get q = some (.fn k' (mk n G r).2.2 (mk n G r).2.1 t) ∧ K.lock = 0))
    (hZ : ∀ n G r, plainL r = true → (mk n G r).1 = true → (mk n G r).2.1 = 0 → LCalls P f (sls 0 n :: r) (mkH [some (.arg k G n)]) (fun u _ => u = .slice none 0 0))
    (hN : ∀ G r, plainL r = true → (mk 0 G r).1 = true → (mk 0 G r).2.1 = 0 ∧ LCalls P f (.slice none 0 0 :: r) (mkH []) (fun u _ => u = .slice none 0 0))
    (H : Heap) (args : List Value) : HGood P f args H (rowNewF k mk k' t H args) := by
  unfold rowNewF
  split
  · rename_i x rest
    cases h1 : srcR H k x with
    | none => exact trivial
    | some gu =>
      obtain ⟨g1, u⟩ := gu
      simp only
      cases hb0 : (Nat.beq H.lock 0 && Nat.blt (H.next + 1) 2147483000) with
      | false => exact trivial
      | true =>
        rw [Bool.and_eq_true] at hb0
        have hb : H.next + 1 < big := by have := hb0.2; unfold big; simpa [Nat.blt_eq] using this
        refine ⟨fun hg => ⟨fun h0 => ?_, fun h0 => ?_⟩, fun _ => trivial⟩
        all_goals
          simp only [Bool.and_eq_true] at hg
          obtain ⟨e1, e2, e3, e4⟩ := hg
          intro ρ args' w ha hr
          haveI := hr.fix.w
          simp only [VRL] at ha
          obtain ⟨x', r', hx, hr', rfl⟩ := ha
          obtain rfl := plainL_eq e3 hr'
        · have h0 := Nat.eq_of_beq_eq_true h0
          have fin : ∀ {a' : List Value}, Calls P f ⟨a'⟩ w (fun e w' => e = .returned (.slice none 0 0) ∧ Below w.heap.size w w') → Calls P f ⟨a'⟩ w (fun e w' => ∃ ρ' v v' H', e = .returned v' ∧ (v = .slice none 0 0 ∧ H' = H) ∧ Ren.le ρ ρ' ∧ Fresh ρ ρ' w ∧ VR ρ' v v' ∧ Rep ρ' H' w' ∧ Keep ρ w w') := by
            intro a' hc
            refine hc.mono ?_
            rintro e w' ⟨rfl, hbl⟩
            exact ⟨ρ, _, _, H, rfl, ⟨rfl, rfl⟩, Ren.le_refl _, Fresh.refl _ _, by simp [VR], hr.below hbl, Below.toKeep hbl⟩
          rcases nil_or h1 with ⟨rfl, rfl⟩ | ⟨a, n, c, rfl⟩
          · simp only [VR] at hx; subst hx
            exact fin (calls_ro (ρ := rowsRen []) (hN _ r' e3 e4).2 (by simp [plain]) (by simp only [VRL]; exact ⟨_, _, by simp [VR], plainL_VR _ e3, rfl⟩) (rows_rep (rs := []) rfl (by simp) (by simp) (by simp)) (fun _ => rfl))
          · obtain ⟨hun, p, hrow⟩ := view_rows hr hx h1 e1 e2
            rw [hun] at e4 h0
            refine fin (calls_ro (ρ := rowsRenW [p] (fun _ => k)) (hZ n _ r' e3 e4 h0) (by simp [plain]) (by simp only [VRL]; exact ⟨x', _, VR_sls (slW_VR hrow (by simp)), plainL_VR _ e3, rfl⟩)
              (rowsW_rep (l := [p]) (rs := [(k, u.fun k, n)]) rfl (by simp) (by
                intro i q hq
                rcases i with _ | i
                · simp at hq; exact hrow.low q hq
                · simp at hq) (by
                intro i k2 g2 n2 h0
                rcases i with _ | i
                · simp at h0; obtain ⟨rfl, rfl, rfl⟩ := h0
                  refine ⟨rfl, fun e j he hj => ⟨hrow.one e j he hj, ?_⟩⟩
                  obtain ⟨q, h3, h4⟩ := hrow.cell e j he hj
                  exact ⟨q, by simp [h3], h4⟩
                · simp at h0)) (fun _ => rfl))
        · have h0 : (mk u.n (u.fun k) r').2.1 ≠ 0 := fun e => by rw [e] at h0; cases h0
          rcases nil_or h1 with ⟨rfl, rfl⟩ | ⟨a, n, c, rfl⟩
          · exact absurd (hN _ r' e3 e4).1 h0
          · obtain ⟨hun, p, hrow⟩ := view_rows hr hx h1 e1 e2
            rw [hun] at e4 h0 ⊢
            obtain ⟨q, hL⟩ := hS n _ r' e3 e4 h0
            refine (calls_new (ρ1 := rowsRenW [p] (fun _ => k)) hL.unsp (by simp only [VRL]; exact ⟨x', _, VR_sls (slW_VR hrow (by simp)), plainL_VR _ e3, rfl⟩)
              (rowsW_rep (l := [p]) (rs := [(k, u.fun k, n)]) rfl (by simp) (by
                intro i q hq
                rcases i with _ | i
                · simp at hq; exact hrow.low q hq
                · simp at hq) (by
                intro i k2 g2 n2 h0
                rcases i with _ | i
                · simp at h0; obtain ⟨rfl, rfl, rfl⟩ := h0
                  refine ⟨rfl, fun e j he hj => ⟨hrow.one e j he hj, ?_⟩⟩
                  obtain ⟨q, h3, h4⟩ := hrow.cell e j he hj
                  exact ⟨q, by simp [h3], h4⟩
                · simp at h0)) (fun _ => rfl) hr hb).mono ?_
            rintro e w' ⟨ρ', v, v', H', rfl, ⟨rfl, rfl⟩, q1, q2, q3, q4, q5⟩
            exact ⟨ρ', _, v', _, rfl, ⟨rfl, rfl⟩, q1, q2, VR_sls q3, q4, q5⟩
  · exact trivial
end
end Go.Ly
namespace Go.Proofs.Ytobdoejkioenhaa
open Go Go.Ly Go.RowKit
def foD : St := Ly.start Try.f16 [] H0
def foS (G : Nat → Nat → Value) (n : Nat) (x : Int) : St := Ly.start Try.f16 [sls 0 n, .int .i64 x] (mkH [some (.arg 3 G n)])
def foK : List KI := ((Ly.run ctxS 15 [] (foS (symF bkN bkZ bkZ) 0 0)).st foD).top.k
def foV (n : Nat) (x : Int) (out : Value) (i : Int) : List Value := slots Try.f16.ntmps [(0, sls 0 n), (1, .int .i64 x), (5, out), (6, .int .i64 i)]
def foN (nm : Nat → ByteArray) (ns hs : Nat → Int) (n : Nat) (x i : Int) : St := mkSt Try.f16 foK none 1 (foV n x (.slice none 0 0) i) [some (.arg 3 (symF nm ns hs) n)]
def foR (nm : Nat → ByteArray) (ns hs : Nat → Int) (n : Nat) (x i : Int) (G : Nat → Nat → Value) (k : Nat) : St := mkSt Try.f16 foK none 1 (foV n x (sls 1 k) i) [some (.arg 3 (symF nm ns hs) n), some (.fn 3 G k 24)]
def foB (n : Nat) (i : Int) : List (Bool × Bool) := [(decide (0 ≤ i) && decide (i < (n : Int)), true), (Nat.blt (0 + i.toNat) n, true)]
def foP (c : Bool) : Path := [(0, true), (0, true), (0, true), (0, c)]
section
variable (nm : Nat → ByteArray) (ns hs : Nat → Int) (n : Nat) (x i : Int) (G : Nat → Nat → Value) (k : Nat)
theorem fo0 : headAt [0, 1, 5, 6] [0] foD (Ly.run ctxS 15 [] (foS (symF nm ns hs) n x)) = (true, [], true, (Try.f16, foK, none, 1), foV n x (.slice none 0 0) 0, [some (.arg 3 (symF nm ns hs) n)]) := by kernel_rfl
theorem fo1 : headAt [0, 1, 5, 6] [0, 2] foD (Ly.run ctxS 40 (foP true ++ [(0, true), (0, true)]) (foN nm ns hs n x i)) = (true, (decide (i < (n : Int)), true) :: (foB n i ++ [(hs (0 + i.toNat) != x, true)] ++ foB n i), true, (Try.f16, foK, none, 1), foV n x (sls 1 1) (IntKind.i64.wrap (i + 1)), [some (.arg 3 (symF nm ns hs) n), some (.fn 3 (lstG 3 1 (bkL nm ns hs (0 + i.toNat))) 1 24)]) := by kernel_rfl
theorem fo2 : headAt [0, 1, 5, 6] [0, 3] foD (Ly.run ctxS 40 (foP true ++ [(0, true), (0, true), (0, true)]) (foR nm ns hs n x i G k)) = (true, (decide (i < (n : Int)), true) :: (foB n i ++ [(hs (0 + i.toNat) != x, true)] ++ foB n i ++ [bkJ k]), true, (Try.f16, foK, none, 1), foV n x (sls 1 (k + 1)) (IntKind.i64.wrap (i + 1)), [some (.arg 3 (symF nm ns hs) n), some (.fn 3 (joinG k (fun e j => G (0 + e) j) (lstG 3 1 (bkL nm ns hs (0 + i.toNat)))) (k + 1) 24)]) := by kernel_rfl
theorem fo3 : headAt [0, 1, 5, 6] [0] foD (Ly.run ctxS 31 (foP false) (foN nm ns hs n x i)) = (true, (decide (i < (n : Int)), true) :: (foB n i ++ [(hs (0 + i.toNat) != x, false)]), true, (Try.f16, foK, none, 1), foV n x (.slice none 0 0) (IntKind.i64.wrap (i + 1)), [some (.arg 3 (symF nm ns hs) n)]) := by kernel_rfl
theorem fo4 : headAt [0, 1, 5, 6] [0, 1] foD (Ly.run ctxS 31 (foP false) (foR nm ns hs n x i G k)) = (true, (decide (i < (n : Int)), true) :: (foB n i ++ [(hs (0 + i.toNat) != x, false)]), true, (Try.f16, foK, none, 1), foV n x (sls 1 k) (IntKind.i64.wrap (i + 1)), [some (.arg 3 (symF nm ns hs) n), some (.fn 3 G k 24)]) := by kernel_rfl
theorem fo5 : (Ly.run ctxS 200 [(0, false)] (foN nm ns hs n x i)).out? = some ([(decide (i < (n : Int)), false)], .slice none 0 0) := by kernel_rfl
theorem fo6 : endsAt [1] (Ly.run ctxS 200 [(0, false)] (foR nm ns hs n x i G k)) = some ([(decide (i < (n : Int)), false)], sls 1 k, 2, [some (.fn 3 G k 24)]) := by kernel_rfl
theorem fo7 : (Ly.run ctxS 200 [] (Ly.start Try.f16 [.slice none 0 0, .int .i64 x] (mkH []))).out? = some ([], .slice none 0 0) := by kernel_rfl
end
section
variable {t : Tb} {w : Int}
theorem keepE_succ (i : Nat) : keepE t w (i + 1) = keepE t w i ++ (bif t.h (keyAt t.has i) != w then [i] else []) := by
  unfold keepE
  rw [List.range_succ, List.filter_append]
  cases h : (t.h (keyAt t.has i) != w) <;> simp [h]
theorem keepE_len (i : Nat) : (keepE t w i).length ≤ i := by
  unfold keepE
  exact Nat.le_trans (List.length_filter_le _ _) (by simp)
theorem keepE_mem {i e : Nat} (he : e < (keepE t w i).length) : (keepE t w i).getD e 0 < i ∧ (t.h (keyAt t.has ((keepE t w i).getD e 0)) != w) = true := by
  have hm : (keepE t w i).getD e 0 ∈ keepE t w i := by
    rw [List.getD_eq_getElem?_getD, List.getElem?_eq_getElem he, Option.getD_some]; exact List.getElem_mem he
  obtain ⟨h1, h2⟩ := List.mem_filter.1 hm
  exact ⟨List.mem_range.1 h1, h2⟩
theorem row_fg (hk : KeyG t.has t.sz) (e j : Nat) (he : e < (fgT t w).sz) (hj : j < 3) : rowT (fgT t w) e j = rowT t ((keepE t w t.sz).getD e 0) j := by
  have ek := fg_key hk w he
  obtain ⟨h1, h2⟩ := keepE_mem (t := t) (w := w) (i := t.sz) he
  have hc : (t.has (keyAt t.has ((keepE t w t.sz).getD e 0)) && (t.h (keyAt t.has ((keepE t w t.sz).getD e 0)) != w)) = true := by rw [hk.at h1, h2]; rfl
  rcases j3 hj with rfl | rfl | rfl
  · show Value.string (keyAt (fgT t w).has e) = _; rw [ek]; rfl
  · show Value.int .u16 ((fgT t w).n (keyAt (fgT t w).has e)) = .int .u16 (t.n (keyAt t.has ((keepE t w t.sz).getD e 0)))
    rw [ek]
    show Value.int .u16 (bif t.has _ && (t.h _ != w) then _ else _) = _
    rw [hc]; rfl
  · show Value.int .i64 ((fgT t w).h (keyAt (fgT t w).has e)) = .int .i64 (t.h (keyAt t.has ((keepE t w t.sz).getD e 0)))
    rw [ek]
    show Value.int .i64 (bif t.has _ && (t.h _ != w) then _ else _) = _
    rw [hc]; rfl
theorem foB_ok {n i : Nat} (h : i < n) : trusted (foB n (i : Int)) := by
  refine ⟨by rw [decide_eq_true (show (0 : Int) ≤ (i : Int) by omega), decide_eq_true (show (i : Int) < (n : Int) by omega)]; rfl, by rw [Nat.blt_eq]; omega, trivial⟩
theorem gFo : ctxS.fn.get 16 = some Try.f16 := by kernel_rfl
def FoQ (t : Tb) (w : Int) : Value → Heap → Prop := fun u K => ((fgT t w).sz = 0 → u = .slice none 0 0) ∧ ((fgT t w).sz ≠ 0 → u = sls 1 (fgT t w).sz ∧ K.get 1 = some (.fn 3 (rowT (fgT t w)) (fgT t w).sz 24) ∧ K.lock = 0)
theorem fo_row (hk : KeyG t.has t.sz) (hs' : t.sz ≤ 1000000) : ∀ (d i : Nat) (G : Nat → Nat → Value), i ≤ t.sz → t.sz - i = d → keepE t w i ≠ [] → (∀ e j, noBlk (G e j)) → (∀ e j, e < (keepE t w i).length → j < 3 → G e j = rowT t ((keepE t w i).getD e 0) j) →
    MWp Try.prog (foR (fun e => keyAt t.has e) (fun e => t.n (keyAt t.has e)) (fun e => t.h (keyAt t.has e)) t.sz w (i : Int) G (keepE t w i).length) (FoQ t w)
  | 0, i, G, h1, hd, hne, hn, hG => by
    have : i = t.sz := by omega
    subst this
    have hsz : (fgT t w).sz ≠ 0 := fun e => hne (List.length_eq_zero_iff.1 e)
    refine Go.Ly.MWp.weakQ (MWp.ends ctxS_ok 200 _ (fo6 _ _ _ _ w _ G _) (by simp [trusted])) ?_
    rintro u K ⟨rfl, k1, k2, k3⟩
    simp only [List.map_cons, List.map_nil, List.cons.injEq, and_true] at k2
    have hget : ∀ i, Heap.get { K with m := K.m.set 1 (some (.fn 3 (rowT (fgT t w)) (fgT t w).sz 24)) } i = if i = 1 then some (.fn 3 (rowT (fgT t w)) (fgT t w).sz 24) else K.get i := fun i => Tr.get_set _ _ _ (by unfold big; omega) i
    refine ⟨{ K with m := K.m.set 1 (some (.fn 3 (rowT (fgT t w)) (fgT t w).sz 24)) }, ⟨fun e => absurd e hsz, fun _ => ⟨rfl, by rw [hget, if_pos rfl], k3⟩⟩, rfl, rfl, fun i o ho => ?_⟩
    rw [hget] at ho
    by_cases e : i = 1
    · subst e
      rw [if_pos rfl] at ho
      obtain rfl := Option.some.inj ho
      exact ⟨_, k2, (.inr (.inr ⟨3, G, rowT (fgT t w), (fgT t w).sz, 24, rfl, rfl, fun e j he hj => by rw [row_fg hk e j he hj]; exact hG e j he hj⟩))⟩
    · rw [if_neg e] at ho
      exact ⟨o, ho, OW.refl o⟩
  | d + 1, i, G, h1, hd, hne, hn, hG => by
    have hi : i < t.sz := by omega
    have hw : IntKind.i64.wrap ((i : Int) + 1) = ((i + 1 : Nat) : Int) := by rw [IntKind.wrap_i64]; omega
    have hz : 0 + (i : Int).toNat = i := by omega
    have hd' : decide ((i : Int) < (t.sz : Int)) = true := decide_eq_true (by omega)
    have hlen := keepE_len (t := t) (w := w) i
    have h1' : 1 ≤ (keepE t w i).length := Nat.one_le_iff_ne_zero.2 fun e => hne (List.length_eq_zero_iff.1 e)
    cases hb : (t.h (keyAt t.has i) != w) with
    | false =>
      have ek : keepE t w (i + 1) = keepE t w i := by rw [keepE_succ, hb]; simp
      refine MWp.head ctxS_ok _ _ _ _ (fo4 _ _ _ _ w (i : Int) G _) ⟨hd', tr_snoc (foB_ok hi) ⟨by rw [hz]; exact hb, trivial⟩⟩ (plain_bk hn) ?_
      rw [hw]
      have := fo_row hk hs' d (i + 1) G (by omega) (by omega) (by rw [ek]; exact hne) hn (by rw [ek]; exact hG)
      rw [ek] at this; exact this
    | true =>
      have ek : keepE t w (i + 1) = keepE t w i ++ [i] := by rw [keepE_succ, hb]; rfl
      have hnb : ∀ e j, noBlk (joinG (keepE t w i).length (fun e j => G (0 + e) j) (lstG 3 1 (bkL (fun e => keyAt t.has e) (fun e => t.n (keyAt t.has e)) (fun e => t.h (keyAt t.has e)) (0 + (i : Int).toNat))) e j) := noBlk_join hn (fun e j => noBlk_bkL _ _ _ _ e j)
      refine MWp.head ctxS_ok _ _ _ _ (fo2 _ _ _ _ w (i : Int) G _) ⟨hd', tr_snoc (tr_app2 (tr_snoc (foB_ok hi) ⟨by rw [hz]; exact hb, trivial⟩) (foB_ok hi)) ⟨bkJ_ok h1' (by omega), trivial⟩⟩ (plain_bk hnb) ?_
      rw [hw]
      have := fo_row hk hs' d (i + 1) (joinG (keepE t w i).length (fun e j => G (0 + e) j) (lstG 3 1 (bkL (fun e => keyAt t.has e) (fun e => t.n (keyAt t.has e)) (fun e => t.h (keyAt t.has e)) (0 + (i : Int).toNat)))) (by omega) (by omega) (by rw [ek]; simp) hnb (fun e j he hj => by
        rw [ek] at he ⊢
        rw [List.length_append, List.length_singleton] at he
        unfold joinG
        rw [vif_eq, hz]
        by_cases hel : e < (keepE t w i).length
        · rw [show Nat.blt e (keepE t w i).length = true by rw [Nat.blt_eq]; exact hel, cond_true]
          show G (0 + e) j = _
          rw [Nat.zero_add, hG e j hel hj, List.getD_eq_getElem?_getD, List.getD_eq_getElem?_getD, List.getElem?_append_left hel]
        · have : e = (keepE t w i).length := by omega
          subst this
          rw [show Nat.blt (keepE t w i).length (keepE t w i).length = false from Bool.eq_false_iff.2 fun h => by rw [Nat.blt_eq] at h; omega, cond_false, List.getD_eq_getElem?_getD, List.getElem?_append_right (Nat.le_refl _), Nat.sub_self]
          exact lst_symF _ _ _ i 0 j hj)
      rw [ek, List.length_append, List.length_singleton] at this
      exact this
theorem fo_nil (hk : KeyG t.has t.sz) (hs' : t.sz ≤ 1000000) : ∀ (d i : Nat), i ≤ t.sz → t.sz - i = d → keepE t w i = [] →
    MWp Try.prog (foN (fun e => keyAt t.has e) (fun e => t.n (keyAt t.has e)) (fun e => t.h (keyAt t.has e)) t.sz w (i : Int)) (FoQ t w)
  | 0, i, h1, hd, hne => by
    have : i = t.sz := by omega
    subst this
    have hsz : (fgT t w).sz = 0 := by show (keepE t w t.sz).length = 0; rw [hne]; rfl
    exact (MWp.out ctxS_ok 200 _ (fo5 _ _ _ _ w _) (by simp [trusted]) (fun _ => rfl) : MWp Try.prog _ (fun u _ => u = .slice none 0 0)).mono fun u K h => ⟨fun _ => h, fun e => absurd hsz e⟩
  | d + 1, i, h1, hd, hne => by
    have hi : i < t.sz := by omega
    have hw : IntKind.i64.wrap ((i : Int) + 1) = ((i + 1 : Nat) : Int) := by rw [IntKind.wrap_i64]; omega
    have hz : 0 + (i : Int).toNat = i := by omega
    have hd' : decide ((i : Int) < (t.sz : Int)) = true := decide_eq_true (by omega)
    cases hb : (t.h (keyAt t.has i) != w) with
    | false =>
      refine MWp.head ctxS_ok _ _ _ _ (fo3 _ _ _ _ w (i : Int)) ⟨hd', tr_snoc (foB_ok hi) ⟨by rw [hz]; exact hb, trivial⟩⟩ plain_bk0 ?_
      rw [hw]
      exact fo_nil hk hs' d (i + 1) (by omega) (by omega) (by rw [keepE_succ, hb, hne]; rfl)
    | true =>
      have ek : keepE t w (i + 1) = [i] := by rw [keepE_succ, hb, hne]; rfl
      refine MWp.head ctxS_ok _ _ _ _ (fo1 _ _ _ _ w (i : Int)) ⟨hd', tr_app2 (tr_snoc (foB_ok hi) ⟨by rw [hz]; exact hb, trivial⟩) (foB_ok hi)⟩ (plain_bk (fun e j => noBlk_bkL _ _ _ _ e j)) ?_
      rw [hw]
      have := fo_row (w := w) hk hs' d (i + 1) (lstG 3 1 (bkL (fun e => keyAt t.has e) (fun e => t.n (keyAt t.has e)) (fun e => t.h (keyAt t.has e)) (0 + (i : Int).toNat))) (by omega) (by omega) (by rw [ek]; simp) (fun e j => noBlk_bkL _ _ _ _ e j) (fun e j he hj => by
        rw [ek] at he ⊢
        have : e = 0 := by simpa using he
        subst this
        rw [hz]
        exact lst_symF _ _ _ i 0 j hj)
      rw [ek] at this
      exact this
theorem fo_calls (hk : KeyG t.has t.sz) (hs' : t.sz ≤ 1000000) : LCalls Try.prog 16 [sls 0 t.sz, .int .i64 w] (mkH [some (.arg 3 (rowT t) t.sz)]) (FoQ t w) := by
  refine LCalls_of ctxS_ok gFo (by kernel_rfl) ?_
  refine MWp.head ctxS_ok _ _ _ _ (fo0 (fun e => keyAt t.has e) (fun e => t.n (keyAt t.has e)) (fun e => t.h (keyAt t.has e)) t.sz w) trivial plain_bk0 ?_
  exact fo_nil hk hs' _ 0 (Nat.zero_le _) rfl rfl
end
def rowGd (G : Nat → Nat → Value) (n : Nat) : Prop := KeyG (tbR G n).has n ∧ n ≤ 1000000 ∧ G = rowT (tbR G n)
def foMk (n : Nat) (G : Nat → Nat → Value) (r : List Value) : Bool × Nat × (Nat → Nat → Value) := match r with
  | [.int .i64 x] => (propB (rowGd G n ∨ n = 0), bif Nat.beq n 0 then 0 else (fgT (tbR G n) x).sz, rowT (fgT (tbR G n) x))
  | _ => (false, 0, G)
def rforE : Heap → List Value → ER := rowNewF 3 foMk 3 24
theorem fo_zero (G : Nat → Nat → Value) (x : Int) : LCalls Try.prog 16 [sls 0 0, .int .i64 x] (mkH [some (.arg 3 G 0)]) (fun u _ => u = .slice none 0 0) :=
  LCalls.argEq (g' := symF bkN bkZ bkZ) (fun e j he => by omega) (LCalls_of ctxS_ok gFo (by kernel_rfl) (MWp.head ctxS_ok _ _ _ _ (fo0 bkN bkZ bkZ 0 x) trivial plain_bk0 (MWp.out ctxS_ok 200 _ (fo5 bkN bkZ bkZ 0 x 0) ⟨by decide, trivial⟩ (fun _ => rfl))))
theorem rfor_good (H : Heap) (args : List Value) : HGood Try.prog 16 args H (rforE H args) := by
  refine rowNewF_good (fun n G r hp hg h0 => ?_) (fun n G r hp hg h0 => ?_) (fun G r hp hg => ?_) H args
  · unfold foMk at hg h0 ⊢
    split at hg
    · rename_i x
      rcases propB_iff.1 hg with ⟨h1, h2, h3⟩ | rfl
      · have hn : Nat.beq n 0 = false := by
          cases hn : Nat.beq n 0 with
          | false => rfl
          | true => rw [hn] at h0; exact absurd rfl h0
        simp only [hn, cond_false] at h0 ⊢
        refine ⟨1, ?_⟩
        have := fo_calls (t := tbR G n) (w := x) h1 h2
        rw [← h3] at this
        exact this.mono fun u K hq => hq.2 h0
      · exact absurd rfl h0
    · cases hg
  · unfold foMk at hg h0
    split at hg
    · rename_i x
      rcases propB_iff.1 hg with ⟨h1, h2, h3⟩ | rfl
      · cases hn : Nat.beq n 0 with
        | true => obtain rfl := Nat.eq_of_beq_eq_true hn; exact fo_zero G x
        | false =>
          simp only [hn, cond_false] at h0
          have := fo_calls (t := tbR G n) (w := x) h1 h2
          rw [← h3] at this
          exact this.mono fun u K hq => hq.1 h0
      · exact fo_zero G x
    · cases hg
  · unfold foMk at hg ⊢
    split at hg
    · rename_i x
      exact ⟨rfl, LCalls_trust (v := .slice none 0 0) ctxS_ok 200 [] gFo (by kernel_rfl) (t := []) (fo7 x) trivial⟩
    · cases hg
end Go.Proofs.Ytobdoejkioenhaa
namespace Go.Proofs.Ytobdoejkioenhaa
open Go Go.Ly Go.RowKit
def ctxF : Ctx := ctxC.withH 29 delE
theorem ctxF_ok : ctxF.Ok Try.prog := ctxC_ok.withH del_good
def fgS (t : Tb) (x : Int) : St := Ly.start Try.f15 [ptr 1, .int .i64 x] (mkH (alO t))
def fgA (t : Tb) : Bool := propB (keyOk t.has t.sz ∧ symOk (fun s => symV s (t.n s) (t.h s)) t.has t.sz)
theorem fgR (t : Tb) (x : Int) : endsAt [0, 1] (Ly.run ctxF 100 [(1, true)] (fgS t x)) = some ([(fgA t, true)], .tuple ⟨[]⟩, 3, [some (mpOf (fgT t x)), some (.cells [.map (some 0)] 54)]) := by kernel_rfl
theorem gFg : ctxF.fn.get 15 = some Try.f15 := by kernel_rfl
theorem fg_calls {t : Tb} {x : Int} (hok : keyOk t.has t.sz) : LCalls Try.prog 15 [ptr 1, .int .i64 x] (mkH (alO t)) (fun u K => u = .tuple ⟨[]⟩ ∧ 2 ≤ K.next ∧ K.next ≤ 18 ∧ K.get 0 = some (mpOf (fgT t x)) ∧ K.get 1 = some (.cells [.map (some 0)] 54) ∧ K.lock = 0) := by
  refine LCalls_of ctxF_ok gFg (by kernel_rfl) ?_
  refine (MWp.ends ctxF_ok 100 _ (fgR t x) ⟨propB_iff.2 ⟨hok, rfl⟩, trivial⟩).mono ?_
  rintro u K ⟨rfl, h1, h2, h3⟩
  simp only [List.map_cons, List.map_nil, List.cons.injEq, and_true] at h2
  exact ⟨rfl, by rw [h1]; omega, by rw [h1]; omega, h2.1, h2.2, h3⟩
def forgE (H : Heap) (args : List Value) : ER :=
  match args with
  | [.pointer (some ⟨p, 0, none⟩), .int .i64 x] =>
    match H.get p with
    | some (.cells [.map (some r)] 54) =>
      match H.get r with
      | some (.mp g has sz) => bif Nat.beq H.lock 0 && (Nat.blt (H.next + 20) 2147483000 && (Nat.blt r H.next && !(Nat.beq p r))) then
          .tst (propB (keyOk has sz ∧ symOk g has sz)) (.mem (.tuple ⟨[]⟩) (setT H r (fgT (tbOf g has sz) x))) .no else .no
      | _ => .no
    | _ => .no
  | _ => .no
theorem forg_good (H : Heap) (args : List Value) : HGood Try.prog 15 args H (forgE H args) := by
  unfold forgE
  split
  · rename_i p x
    split
    · rename_i r hp
      split
      · rename_i g has sz hg
        cases hc : (Nat.beq H.lock 0 && (Nat.blt (H.next + 20) 2147483000 && (Nat.blt r H.next && !(Nat.beq p r)))) with
        | false => exact trivial
        | true =>
        simp only [cond_true]
        simp only [Bool.and_eq_true, Bool.not_eq_true'] at hc
        refine ⟨fun hok => ?_, fun _ => trivial⟩
        obtain ⟨hok, hsy⟩ := propB_iff.1 hok
        have hpr : p ≠ r := fun e => by rw [e, Nat.beq_refl] at hc; cases hc.2.2.2
        exact tbl_frame (t := tbOf g has sz) (t' := fgT (tbOf g has sz) x) (Nat.eq_of_beq_eq_true hc.1) (by simpa [Nat.blt_eq] using hc.2.1) (by simpa [Nat.blt_eq] using hc.2.2.1) hpr hp (by rw [hg]; exact congrArg some hsy) ⟨fun f => by simp [renV], trivial⟩ (fun f => by simp [renV, renL]) (fg_calls hok)
      · exact trivial
    · exact trivial
  · exact trivial
def ctxZ : Ctx := ((((ctxY.withH 15 forgE).withH 10 rputE).withH 16 rforE).withC 18 (conTree ctxP 400 18)).withC 20 (conTree ctxP 400 20)
theorem ctxZ_ok : ctxZ.Ok Try.prog := ((((ctxY_ok.withH forg_good).withH rput_good).withH rfor_good).byCon ctxP_ok 400 18).byCon ctxP_ok 400 20
end Go.Proofs.Ytobdoejkioenhaa
namespace Go.Proofs.Ytobdoejkioenhaa
open Go Go.Ly Go.RowKit
def plD : St := Ly.start Try.f5 [] H0
def plS (kd : Nat → Int) (nm : Nat → ByteArray) (ns hs : Nat → Int) (n : Nat) : St := Ly.start Try.f5 [sls 0 n] (mkH [some (.arg 4 (opF kd nm ns hs) n)])
def plK : List KI := ((Ly.run ctxZ 53 [(0, true), (0, false)] (plS bkZ bkN bkZ bkZ 0)).st plD).top.k
def plV (n : Nat) (m : Value) (i : Int) : List Value := slots Try.f5.ntmps [(0, sls 0 n), (3, ptr 2), (4, m), (5, .int .i64 i)]
def plX (t : Tb) : Tb := tbR (rowT t) t.sz
def rkA (t : Tb) (s : ByteArray) : Bool := propB (t.sz = t.sz ∧ rowOk (rowT t) t.sz s)
def bC (n : Nat) (i : Int) : List (Bool × Bool) := [(decide (0 ≤ i) && decide (i < (n : Int)), true), (Nat.blt (0 + i.toNat) n, true)]
def q0p : Path := [(0, true), (0, true), (0, true), (0, true), (0, true), (0, true)]
def q1p (c : Bool) : Path := [(0, true), (0, true), (0, true), (0, true), (0, true), (0, false), (0, c)]
def plZ : Tb := ⟨fun _ => false, fun _ => 0, fun _ => 0, 1⟩
def plRw (t : Tb) : Option LO := some (.fn 3 (rowT t) t.sz 24)
def plHR (kd : Nat → Int) (nm : Nat → ByteArray) (ns hs : Nat → Int) (n : Nat) (i : Int) (dst : Option Tmp) (t : Tb) : St := mkSt Try.f5 plK dst 1 (plV n (sls 3 t.sz) i) (styO kd nm ns hs n (mpOf t) ++ [plRw t])
def plHN (kd : Nat → Int) (nm : Nat → ByteArray) (ns hs : Nat → Int) (n : Nat) (i : Int) (dst : Option Tmp) (t : Tb) : St := mkSt Try.f5 plK dst 1 (plV n (.slice none 0 0) i) (styO kd nm ns hs n (mpOf t))
def plMK : List KI := ((Ly.run ctxZ 75 (q0p ++ [(0, true), (0, true), (0, true), (0, true), (0, false)]) (plHR bkZ bkN bkZ bkZ 0 0 none plZ)).st plD).top.k
def plMV (n : Nat) (m : Value) (i : Int) : List Value := slots Try.f5.ntmps [(0, sls 0 n), (3, ptr 2), (4, m), (5, .int .i64 i), (6, ptr 3)]
def plC (nm : Nat → ByteArray) (ns hs : Nat → Int) (i : Int) : LO := .cells [.string (nm (0 + i.toNat)), .int .u16 (ns (0 + i.toNat)), .int .i64 (hs (0 + i.toNat))] 24
def plMO (kd : Nat → Int) (nm : Nat → ByteArray) (ns hs : Nat → Int) (n : Nat) (i : Int) (t : LO) : List (Option LO) := styO kd nm ns hs n t ++ [some (plC nm ns hs i)]
def plT0 (kd : Nat → Int) (n : Nat) (i : Int) : List (Bool × Bool) := (decide (i < (n : Int)), true) :: (bC n i ++ bC n i)
def S0 (nm : Nat → ByteArray) (i : Int) : ByteArray := nm (0 + i.toNat)
def Z0 (nm : Nat → Int) (i : Int) : Int := nm (0 + i.toNat)
def plU (nm : Nat → ByteArray) (ns hs : Nat → Int) (i : Int) (t : Tb) : Tb := putU (plX t) (S0 nm i) (Z0 ns i) (Z0 hs i)
def plP (nm : Nat → ByteArray) (ns hs : Nat → Int) (i : Int) (t : Tb) : Tb := putT t (S0 nm i) (Z0 ns i) (Z0 hs i)
def k0 (nm : Nat → ByteArray) (hs : Nat → Int) (i : Int) (t : Tb) : Bool := putK t (S0 nm i) (Z0 hs i) != 0
def kX (nm : Nat → ByteArray) (hs : Nat → Int) (i : Int) (t : Tb) : Bool := putK (plX t) (S0 nm i) (Z0 hs i) == 0
def inZ (nm : Nat → ByteArray) (i : Int) (t : Tb) : Bool := Nat.beq (insN (fun e => keyAt (plX t).has e) t.sz (S0 nm i)) 0
def fA (t : Tb) : Bool := propB (keyOk t.has t.sz ∧ symOk (fun s => symV s (t.n s) (t.h s)) t.has t.sz)
def tbX (t : Tb) : Tb := tbR (fun e j => rowT t (0 + e) j) t.sz
def fB (t : Tb) : Bool := Nat.ble (0 + t.sz) t.sz && (true && (true && propB (rowGd (fun e j => rowT t (0 + e) j) t.sz ∨ t.sz = 0)))
def fZ (t : Tb) (x : Int) : Nat := bif Nat.beq t.sz 0 then 0 else (fgT (tbX t) x).sz
def fN : Bool := true && (true && (true && propB (rowGd (lstG 3 0 []) 0 ∨ 0 = 0)))
def plMN (kd : Nat → Int) (nm : Nat → ByteArray) (ns hs : Nat → Int) (n : Nat) (i : Int) (dst : Option Tmp) (t : Tb) : St := mkSt Try.f5 plMK dst 1 (plMV n (.slice none 0 0) i) (plMO kd nm ns hs n i (mpOf t))
def plMR (kd : Nat → Int) (nm : Nat → ByteArray) (ns hs : Nat → Int) (n : Nat) (i : Int) (dst : Option Tmp) (t : Tb) : St := mkSt Try.f5 plMK dst 1 (plMV n (sls 4 t.sz) i) (plMO kd nm ns hs n i (mpOf t) ++ [plRw t])
def gG (t : Tb) : Bool := Nat.ble (0 + t.sz) t.sz && (true && (true && propB (isSym (fun e j => rowT t (0 + e) j) t.sz)))
def gF (t : Tb) (s : ByteArray) : Int := findV (fun e => keyAt t.has (0 + e)) t.sz s
def gE (t : Tb) (s : ByteArray) : ByteArray := keyAt t.has (0 + (gF t s).toNat)
def gS (t : Tb) : Bool := Nat.ble (0 + t.sz) t.sz && (true && (Nat.ble (0 + t.sz) t.sz && (true && propB (isSym (fun e j => asSym (fun e j => symC t (0 + e) j) (0 + e) j) t.sz ∧ isSym (fun e j => rowT t (0 + e) j) t.sz))))
def gV (t : Tb) : Bool := sameV t.sz (fun e j => asSym (fun e j => symC t (0 + e) j) (0 + e) j) t.sz (fun e j => rowT t (0 + e) j)
def nG : Bool := true && (true && (true && propB (isSym (lstG 3 0 []) 0)))
def nS : Bool := true && (true && (true && (true && propB (isSym (lstG 3 0 []) 0 ∧ isSym (lstG 3 0 []) 0))))
def eY : Path := [(1,true),(1,true),(0,false),(0,true),(0,true),(0,true),(8,true),(4,true),(0,false),(0,true),(0,true),(2,true),(1,true),(0,false),(1,true),(0,false),(2,true),(2,false)]
def eN : Path := [(1,false),(1,true),(0,true),(9,false),(4,true),(0,true),(4,true),(0,false),(1,true),(0,false),(2,true),(2,false)]
def gB (t : Tb) (s : ByteArray) : List (Bool × Bool) := [(gG t, true), (decide (gF t s < 0), false), (decide (0 ≤ gF t s) && decide (gF t s < (t.sz : Int)), true), (Nat.blt (0 + (gF t s).toNat) t.sz, true)]
def gZ (t : Tb) : List (Bool × Bool) := [(fA t, true), (Nat.beq t.sz 0, false), (gG t, true), (Nat.beq t.sz 0, false), (gS t, true), (!(gV t), false)]
def tYs (t : Tb) (s : ByteArray) : List (Bool × Bool) := (t.has s, true) :: (gB t s ++ ((t.n s != t.n (gE t s)) == false, true) :: (t.has s, true) :: (gB t s ++ ((t.h s != t.h (gE t s)) == false, true) :: gZ t))
def tNs (t : Tb) (s : ByteArray) : List (Bool × Bool) := [(t.has s, false), (gG t, true), (decide (gF t s < 0), true), (t.has s, false), (gG t, true), (decide (gF t s < 0), true)] ++ gZ t
def eZ : Path := [(1,false),(1,true),(10,false),(4,true),(5,true),(0,true),(1,true),(3,true)]
def tZs (t : Tb) (s : ByteArray) : List (Bool × Bool) := [(t.has s, false), (nG, true), (t.has s, false), (nG, true), (fA t, true), (Nat.beq t.sz 0, true), (nG, true), (nS, true)]
section
variable (kd : Nat → Int) (nm : Nat → ByteArray) (ns hs : Nat → Int) (n : Nat) (i : Int) (dst : Option Tmp) (t : Tb)
theorem ph0 : headAt [0, 3, 4, 5] [0, 1, 2] plD (Ly.run ctxZ 53 [(0,true),(0,false)] (plS kd nm ns hs n)) = (true, [(lgT kd nm ns hs n, true), (!(liB n fun e => nm (0+e)), false)], true, (Try.f5, plK, some 17, 1), plV n (.slice none 0 0) 0, styO kd nm ns hs n t0) := by kernel_rfl
theorem ph1 : (Ly.run ctxZ 300 [(0, true), (0, true)] (plS kd nm ns hs n)).out? = some ([(lgT kd nm ns hs n, true), (!(liB n fun e => nm (0+e)), true)], .bool true) := by kernel_rfl
theorem ph2 : (Ly.run ctxZ 300 [(0, false)] (plHR kd nm ns hs n i dst t)).out? = some ([(decide (i < (n : Int)), false)], .bool true) := by kernel_rfl
theorem ph3 : (Ly.run ctxZ 300 [(0, false)] (plHN kd nm ns hs n i dst t)).out? = some ([(decide (i < (n : Int)), false)], .bool true) := by kernel_rfl
theorem phN : (Ly.run ctxZ 300 [(0, true)] (Ly.start Try.f5 [.slice none 0 0] (mkH []))).out? = some ([(true && (true && (true && propB (isOp (lstG 4 0 []) 0))), true)], .bool true) := by kernel_rfl
theorem phT : headAt [0, 3, 4, 5] [0, 1, 2] plD (Ly.run ctxZ 0 [] { mkSt Try.f5 plK (some 17) 1 (plV n (.slice none 0 0) 0) (styO kd nm ns hs n t0) with H := (mkSt Try.f5 plK (some 17) 1 (plV n (.slice none 0 0) 0) (styO kd nm ns hs n t0)).H.put 1 (mpOf tE) }) = (true, [], true, (Try.f5, plK, some 17, 1), plV n (.slice none 0 0) 0, styO kd nm ns hs n (mpOf tE)) := by kernel_rfl
theorem ph_D : headAt [0, 3, 4, 5, 6] [0, 1, 2, 4, 6] plD (Ly.run ctxZ 75 (q0p ++ [(0, true), (0, true), (0, true), (0, true), (0, false)]) (plHR kd nm ns hs n i dst t)) = (true, plT0 kd n i ++ [(kd (0 + i.toNat) == 0, true), (rkA t (S0 nm i), true), (kX nm hs i t, true), ((plX t).has (S0 nm i), true), (pA t (S0 nm i), true), (k0 nm hs i t, false)], true, (Try.f5, plMK, dst, 1), plMV n (sls 4 (plU nm ns hs i t).sz) i, plMO kd nm ns hs n i (mpOf (plP nm ns hs i t)) ++ [plRw (plU nm ns hs i t)]) := by kernel_rfl
theorem ph_X : headAt [0, 3, 4, 5, 6] [0, 1, 2, 4, 8] plD (Ly.run ctxZ 75 (q0p ++ [(0, true), (0, true), (0, false), (0, true), (0, true), (0, false)]) (plHR kd nm ns hs n i dst t)) = (true, plT0 kd n i ++ [(kd (0 + i.toNat) == 0, true), (rkA t (S0 nm i), true), (kX nm hs i t, true), ((plX t).has (S0 nm i), false), (inZ nm i t, true), (pA t (S0 nm i), true), (k0 nm hs i t, false)], true, (Try.f5, plMK, dst, 1), plMV n (sls 4 (plU nm ns hs i t).sz) i, plMO kd nm ns hs n i (mpOf (plP nm ns hs i t)) ++ [plRw (plU nm ns hs i t)]) := by kernel_rfl
theorem ph_Y : headAt [0, 3, 4, 5, 6] [0, 1, 2, 4, 9] plD (Ly.run ctxZ 75 (q0p ++ [(0, true), (0, true), (0, false), (0, false), (0, true), (0, false)]) (plHR kd nm ns hs n i dst t)) = (true, plT0 kd n i ++ [(kd (0 + i.toNat) == 0, true), (rkA t (S0 nm i), true), (kX nm hs i t, true), ((plX t).has (S0 nm i), false), (inZ nm i t, false), (pA t (S0 nm i), true), (k0 nm hs i t, false)], true, (Try.f5, plMK, dst, 1), plMV n (sls 4 (plU nm ns hs i t).sz) i, plMO kd nm ns hs n i (mpOf (plP nm ns hs i t)) ++ [plRw (plU nm ns hs i t)]) := by kernel_rfl
theorem ph_E : headAt [0, 3, 4, 5, 6] [0, 1, 2, 4, 3] plD (Ly.run ctxZ 75 (q0p ++ [(0, true), (0, false), (0, true), (0, false)]) (plHR kd nm ns hs n i dst t)) = (true, plT0 kd n i ++ [(kd (0 + i.toNat) == 0, true), (rkA t (S0 nm i), true), (kX nm hs i t, false), (pA t (S0 nm i), true), (putK t (S0 nm i) (Z0 hs i) != putK (plX t) (S0 nm i) (Z0 hs i), false)], true, (Try.f5, plMK, dst, 1), plMV n (sls 4 t.sz) i, plMO kd nm ns hs n i (mpOf (plP nm ns hs i t)) ++ [plRw t]) := by kernel_rfl
theorem ph_N : headAt [0, 3, 4, 5, 6] [0, 1, 2, 3, 4] plD (Ly.run ctxZ 75 (q0p ++ [(0, true), (0, true), (0, true), (0, false)]) (plHN kd nm ns hs n i dst t)) = (true, plT0 kd n i ++ [(kd (0 + i.toNat) == 0, true), (Nat.ble (S0 nm i).size 1000000, true), (putK tE (S0 nm i) (Z0 hs i) == 0, true), (pA t (S0 nm i), true), (k0 nm hs i t, false)], true, (Try.f5, plMK, dst, 1), plMV n (sls 4 1) i, plMO kd nm ns hs n i (mpOf (plP nm ns hs i t)) ++ [some (.fn 3 (rowT (putU tE (S0 nm i) (Z0 ns i) (Z0 hs i))) 1 24)]) := by kernel_rfl
theorem ph_M : headAt [0, 3, 4, 5, 6] [0, 1, 2, 3] plD (Ly.run ctxZ 75 (q0p ++ [(0, true), (0, false), (0, true), (0, false)]) (plHN kd nm ns hs n i dst t)) = (true, plT0 kd n i ++ [(kd (0 + i.toNat) == 0, true), (Nat.ble (S0 nm i).size 1000000, true), (putK tE (S0 nm i) (Z0 hs i) == 0, false), (pA t (S0 nm i), true), (putK t (S0 nm i) (Z0 hs i) != putK tE (S0 nm i) (Z0 hs i), false)], true, (Try.f5, plMK, dst, 1), plMV n (.slice none 0 0) i, plMO kd nm ns hs n i (mpOf (plP nm ns hs i t))) := by kernel_rfl
theorem ph_oR : headAt [0, 3, 4, 5, 6] [0, 1, 2, 4, 3] plD (Ly.run ctxZ 46 (q1p false) (plHR kd nm ns hs n i dst t)) = (true, plT0 kd n i ++ [(kd (0 + i.toNat) == 0, false), (kd (0 + i.toNat) == 1, false)], true, (Try.f5, plMK, dst, 1), plMV n (sls 4 t.sz) i, plMO kd nm ns hs n i (mpOf t) ++ [plRw t]) := by kernel_rfl
theorem ph_oN : headAt [0, 3, 4, 5, 6] [0, 1, 2, 3] plD (Ly.run ctxZ 46 (q1p false) (plHN kd nm ns hs n i dst t)) = (true, plT0 kd n i ++ [(kd (0 + i.toNat) == 0, false), (kd (0 + i.toNat) == 1, false)], true, (Try.f5, plMK, dst, 1), plMV n (.slice none 0 0) i, plMO kd nm ns hs n i (mpOf t)) := by kernel_rfl
theorem ph_Fr : headAt [0, 3, 4, 5, 6] [0, 1, 2, 4, 21] plD (Ly.run ctxZ 59 (q1p true ++ [(0, true), (0, true), (0, false)]) (plHR kd nm ns hs n i dst t)) = (true, plT0 kd n i ++ [(kd (0 + i.toNat) == 0, false), (kd (0 + i.toNat) == 1, true), (fA t, true), (fB t, true), (Nat.beq (fZ t (Z0 hs i)) 0, false)], true, (Try.f5, plMK, dst, 1), plMV n (sls 4 (fZ t (Z0 hs i))) i, plMO kd nm ns hs n i (mpOf (fgT t (Z0 hs i))) ++ [some (.fn 3 (rowT (fgT (tbX t) (Z0 hs i))) (fZ t (Z0 hs i)) 24)]) := by kernel_rfl
theorem ph_Fn : headAt [0, 3, 4, 5, 6] [0, 1, 2, 4] plD (Ly.run ctxZ 59 (q1p true ++ [(0, true), (0, true), (0, true)]) (plHR kd nm ns hs n i dst t)) = (true, plT0 kd n i ++ [(kd (0 + i.toNat) == 0, false), (kd (0 + i.toNat) == 1, true), (fA t, true), (fB t, true), (Nat.beq (fZ t (Z0 hs i)) 0, true)], true, (Try.f5, plMK, dst, 1), plMV n (.slice none 0 0) i, plMO kd nm ns hs n i (mpOf (fgT t (Z0 hs i)))) := by kernel_rfl
theorem ph_Fz : headAt [0, 3, 4, 5, 6] [0, 1, 2, 3] plD (Ly.run ctxZ 59 (q1p true ++ [(0, true), (0, true)]) (plHN kd nm ns hs n i dst t)) = (true, plT0 kd n i ++ [(kd (0 + i.toNat) == 0, false), (kd (0 + i.toNat) == 1, true), (fA t, true), (fN, true)], true, (Try.f5, plMK, dst, 1), plMV n (.slice none 0 0) i, plMO kd nm ns hs n i (mpOf (fgT t (Z0 hs i)))) := by kernel_rfl
theorem ph_eY : headAt [0, 3, 4, 5] [0, 1, 2, 4] plD (Ly.run ctxZ 35 eY (plMR kd nm ns hs n i dst t)) = (true, tYs t (S0 nm i), true, (Try.f5, plK, dst, 1), plV n (sls 3 t.sz) (IntKind.i64.wrap (i + 1)), styO kd nm ns hs n (mpOf t) ++ [plRw t]) := by kernel_rfl
theorem ph_eN : headAt [0, 3, 4, 5] [0, 1, 2, 4] plD (Ly.run ctxZ 35 eN (plMR kd nm ns hs n i dst t)) = (true, tNs t (S0 nm i), true, (Try.f5, plK, dst, 1), plV n (sls 3 t.sz) (IntKind.i64.wrap (i + 1)), styO kd nm ns hs n (mpOf t) ++ [plRw t]) := by kernel_rfl
theorem ph_eZ : headAt [0, 3, 4, 5] [0, 1, 2] plD (Ly.run ctxZ 35 eZ (plMN kd nm ns hs n i dst t)) = (true, tZs t (S0 nm i), true, (Try.f5, plK, dst, 1), plV n (.slice none 0 0) (IntKind.i64.wrap (i + 1)), styO kd nm ns hs n (mpOf t)) := by kernel_rfl
end
end Go.Proofs.Ytobdoejkioenhaa
namespace Go.Proofs.Ytobdoejkioenhaa
open Go Go.Ly Go.RowKit
structure PInv (t : Tb) (i : Nat) : Prop where
  few : Few t i
  key : KeyG t.has t.sz
  nrm : Nrm t
theorem row0 (t : Tb) : (fun e j => rowT t (0 + e) j) = rowT t := funext fun e => by rw [Nat.zero_add]
theorem PInv.tb {t : Tb} {i : Nat} (h : PInv t i) : plX t = t := tbR_row h.key h.nrm
theorem PInv.tbx {t : Tb} {i : Nat} (h : PInv t i) : tbX t = t := by unfold tbX; rw [row0]; exact tbR_row h.key h.nrm
theorem keyG_E : KeyG tE.has tE.sz := by
  have : KeyL tE.has [] := ⟨List.nodup_nil, fun x => by simp [tE]⟩
  exact keyG_of this
theorem nrm_E : Nrm tE := fun s _ => ⟨rfl, rfl⟩
theorem pinv_E (i : Nat) : PInv tE i := ⟨few_E i, keyG_E, nrm_E⟩
theorem PInv.none {t : Tb} {i : Nat} (h : PInv t i) (h0 : t.sz = 0) (s : ByteArray) : t.has s = false := by
  cases hs : t.has s with
  | false => rfl
  | true => obtain ⟨e, he, _⟩ := h.key.ex hs; omega
theorem PInv.isE {t : Tb} {i : Nat} (h : PInv t i) (h0 : t.sz = 0) : t = tE := by
  cases t with
  | mk has nn hh sz =>
    have h1 := fun s => h.none h0 s
    have h2 := fun s => h.nrm s (h1 s)
    simp only [tE, Tb.mk.injEq]
    exact ⟨funext h1, funext fun s => (h2 s).1, funext fun s => (h2 s).2, h0⟩
theorem PInv.put {t : Tb} {i : Nat} (h : PInv t i) {s : ByteArray} {v w : Int} (hs : s.size ≤ 100) : PInv (putT t s v w) (i + 1) := ⟨h.few.put hs, keyG_put h.key, nrm_put h.nrm⟩
theorem PInv.up {t : Tb} {i : Nat} (h : PInv t i) : PInv t (i + 1) := ⟨h.few.up, h.key, h.nrm⟩
theorem PInv.forget {t : Tb} {i : Nat} (h : PInv t i) {w : Int} : PInv (fgT t w) (i + 1) := by
  refine ⟨⟨?_, fun s hs => ?_⟩, keyG_fg h.key w, nrm_fg⟩
  · have : (keepE t w t.sz).length ≤ t.sz := by unfold keepE; exact Nat.le_trans (List.length_filter_le _ _) (by simp)
    have h2 := h.few.sz
    show (keepE t w t.sz).length ≤ i + 1
    omega
  · have hs' : (t.has s && (t.h s != w)) = true := hs
    rw [Bool.and_eq_true] at hs'
    exact h.few.nm s hs'.1
theorem PInv.ok {t : Tb} {i : Nat} (h : PInv t i) (hi : i ≤ 61) : keyOk t.has t.sz := h.few.ok2 (by omega)
theorem PInv.rk {t : Tb} {i : Nat} (h : PInv t i) (hi : i ≤ 61) {s : ByteArray} (hs : s.size ≤ 100) : rkA t s = true := by
  refine propB_iff.2 ⟨rfl, by omega, ?_, ?_, ?_⟩
  · show KeyG (plX t).has t.sz; rw [h.tb]; exact h.key
  · show keyOk (plX t).has t.sz; rw [h.tb]; exact h.ok hi
  · show rowT t = rowT (plX t); rw [h.tb]
section
variable {kd : Nat → Int} {nm : Nat → ByteArray} {ns hs : Nat → Int} {n : Nat}
def plHd (kd : Nat → Int) (nm : Nat → ByteArray) (ns hs : Nat → Int) (n : Nat) (i : Int) (dst : Option Tmp) (t : Tb) : St := bif Nat.beq t.sz 0 then plHN kd nm ns hs n i dst t else plHR kd nm ns hs n i dst t
def plMd (kd : Nat → Int) (nm : Nat → ByteArray) (ns hs : Nat → Int) (n : Nat) (i : Int) (dst : Option Tmp) (t : Tb) : St := bif Nat.beq t.sz 0 then plMN kd nm ns hs n i dst t else plMR kd nm ns hs n i dst t
theorem plain_rowT (t : Tb) (e j : Nat) : noBlk (rowT t e j) := noBlk_symF _ _ _ e j
theorem plain_app {l : List (Option LO)} {o1 : LO} (h : ∀ o ∈ l, ∀ x, o = some x → plainO x) (h1 : plainO o1) : ∀ o ∈ l ++ [some o1], ∀ x, o = some x → plainO x := by
  intro o ho x hx
  rcases List.mem_append.1 ho with ho | ho
  · exact h o ho x hx
  · simp only [List.mem_cons, List.not_mem_nil, or_false] at ho
    subst ho
    obtain rfl := Option.some.inj hx
    exact h1
theorem plain_mo {t : Tb} {i : Int} : ∀ o ∈ plMO kd nm ns hs n i (mpOf t), ∀ x, o = some x → plainO x := plain_app plain_sty trivial
theorem plain_rw {l : List (Option LO)} {t : Tb} (h : ∀ o ∈ l, ∀ x, o = some x → plainO x) : ∀ o ∈ l ++ [plRw t], ∀ x, o = some x → plainO x := plain_app h (plain_rowT t)
theorem bC_ok {i : Nat} (h : i < n) : trusted (bC n (i : Int)) := by
  refine ⟨by rw [decide_eq_true (show (0 : Int) ≤ (i : Int) by omega), decide_eq_true (show (i : Int) < (n : Int) by omega)]; rfl, by rw [Nat.blt_eq]; omega, trivial⟩
theorem plT0_ok {i : Nat} (h : i < n) : trusted (plT0 kd n (i : Int)) := ⟨decide_eq_true (by omega), tr_app2 (bC_ok h) (bC_ok h)⟩
variable {Q : Value → Heap → Prop}
theorem pl_mid (hn : n ≤ 60) (hl : ∀ e, e < n → (nm e).size ≤ 100) {i : Nat} (hi : i < n) {dst : Option Tmp} {t : Tb} (hp : PInv t i) (hm : ∀ t', PInv t' (i + 1) → MWp Try.prog (plMd kd nm ns hs n (i : Int) dst t') Q) :
    MWp Try.prog (plHd kd nm ns hs n (i : Int) dst t) Q := by
  have hz : 0 + (i : Int).toNat = i := by omega
  have hT := plT0_ok (kd := kd) hi
  have hS : (S0 nm (i : Int)).size ≤ 100 := by unfold S0; rw [hz]; exact hl i hi
  have hpA : ∀ {t : Tb}, pA t (S0 nm (i : Int)) = true := pA_ok (by omega)
  have hput := hp.put (v := Z0 ns (i : Int)) (w := Z0 hs (i : Int)) hS
  unfold plHd
  by_cases hk0 : kd i = 0
  · have e0 : (kd (0 + (i : Int).toNat) == 0) = true := by rw [hz, hk0]; rfl
    have m1 := hm _ hput
    unfold plMd at m1
    cases h0 : Nat.beq t.sz 0 with
    | true =>
      rw [cond_true]
      obtain rfl := hp.isE (Nat.eq_of_beq_eq_true h0)
      have hSs : Nat.ble (S0 nm (i : Int)).size 1000000 = true := Nat.ble_eq_true_of_le (by omega)
      by_cases hk : putK tE (S0 nm (i : Int)) (Z0 hs (i : Int)) = 0
      · rw [putT_yes hk, show Nat.beq (putU tE (S0 nm (i : Int)) (Z0 ns (i : Int)) (Z0 hs (i : Int))).sz 0 = false from rfl, cond_false] at m1
        refine MWp.head ctxZ_ok _ _ _ _ (ph_N kd nm ns hs n (i : Int) dst tE) (tr_app2 hT ⟨e0, hSs, by rw [hk]; rfl, hpA, by unfold k0; rw [hk]; rfl, trivial⟩) (plain_app plain_mo (plain_rowT _)) ?_
        unfold plP
        rw [putT_yes hk]
        exact m1
      · rw [putT_no (t := tE) (n := Z0 ns (i : Int)) rfl (by simpa using hk)] at m1
        refine MWp.head ctxZ_ok _ _ _ _ (ph_M kd nm ns hs n (i : Int) dst tE) (tr_app2 hT ⟨e0, hSs, by simpa using hk, hpA, by simp, trivial⟩) plain_mo ?_
        unfold plP
        rw [putT_no (t := tE) (n := Z0 ns (i : Int)) rfl (by simpa using hk)]
        exact m1
    | false =>
      rw [cond_false]
      have hrk := hp.rk (by omega) hS
      have h0' : t.sz ≠ 0 := Nat.ne_of_beq_eq_false h0
      by_cases hk : putK t (S0 nm (i : Int)) (Z0 hs (i : Int)) = 0
      · have hsz : Nat.beq (putU t (S0 nm (i : Int)) (Z0 ns (i : Int)) (Z0 hs (i : Int))).sz 0 = false := Bool.eq_false_iff.2 fun e => by
          have := Nat.eq_of_beq_eq_true e
          change (bif t.has (S0 nm (i : Int)) then t.sz else t.sz + 1) = 0 at this
          cases hh : t.has (S0 nm (i : Int)) <;> rw [hh] at this
          · exact absurd this (by simp)
          · exact h0' this
        rw [putT_yes hk, hsz, cond_false] at m1
        have hkX : kX nm hs (i : Int) t = true := by unfold kX; rw [hp.tb, hk]; rfl
        have hk0' : k0 nm hs (i : Int) t = false := by unfold k0; rw [hk]; rfl
        have eU : plU nm ns hs (i : Int) t = putU t (S0 nm (i : Int)) (Z0 ns (i : Int)) (Z0 hs (i : Int)) := by unfold plU; rw [hp.tb]
        have eP : plP nm ns hs (i : Int) t = putU t (S0 nm (i : Int)) (Z0 ns (i : Int)) (Z0 hs (i : Int)) := putT_yes hk
        cases hh : t.has (S0 nm (i : Int)) with
        | true =>
          refine MWp.head ctxZ_ok _ _ _ _ (ph_D kd nm ns hs n (i : Int) dst t) (tr_app2 hT ⟨e0, hrk, hkX, by rw [hp.tb, hh], hpA, hk0', trivial⟩) (plain_rw plain_mo) ?_
          rw [eU, eP]; exact m1
        | false =>
          cases hz2 : inZ nm (i : Int) t with
          | true =>
            refine MWp.head ctxZ_ok _ _ _ _ (ph_X kd nm ns hs n (i : Int) dst t) (tr_app2 hT ⟨e0, hrk, hkX, by rw [hp.tb, hh], hz2, hpA, hk0', trivial⟩) (plain_rw plain_mo) ?_
            rw [eU, eP]; exact m1
          | false =>
            refine MWp.head ctxZ_ok _ _ _ _ (ph_Y kd nm ns hs n (i : Int) dst t) (tr_app2 hT ⟨e0, hrk, hkX, by rw [hp.tb, hh], hz2, hpA, hk0', trivial⟩) (plain_rw plain_mo) ?_
            rw [eU, eP]; exact m1
      · have eT : putT t (S0 nm (i : Int)) (Z0 ns (i : Int)) (Z0 hs (i : Int)) = t := putT_no rfl (by simpa using hk)
        rw [eT, h0, cond_false] at m1
        refine MWp.head ctxZ_ok _ _ _ _ (ph_E kd nm ns hs n (i : Int) dst t) (tr_app2 hT ⟨e0, hrk, by unfold kX; rw [hp.tb]; simpa using hk, hpA, by rw [hp.tb]; simp, trivial⟩) (plain_rw plain_mo) ?_
        rw [show plP nm ns hs (i : Int) t = t from eT]; exact m1
  · have e0 : (kd (0 + (i : Int).toNat) == 0) = false := by rw [hz]; simpa using hk0
    by_cases hk1 : kd i = 1
    · have e1 : (kd (0 + (i : Int).toNat) == 1) = true := by rw [hz, hk1]; rfl
      have m1 := hm _ (hp.forget (w := Z0 hs (i : Int)))
      unfold plMd at m1
      have hfA : fA t = true := propB_iff.2 ⟨hp.ok (by omega), rfl⟩
      cases h0 : Nat.beq t.sz 0 with
      | true =>
        rw [cond_true]
        have h0' := Nat.eq_of_beq_eq_true h0
        have hsz : (fgT t (Z0 hs (i : Int))).sz = 0 := by
          show (keepE t (Z0 hs (i : Int)) t.sz).length = 0; rw [h0']; rfl
        rw [hsz, show Nat.beq 0 0 = true from rfl, cond_true] at m1
        refine MWp.head ctxZ_ok _ _ _ _ (ph_Fz kd nm ns hs n (i : Int) dst t) (tr_app2 hT ⟨e0, e1, hfA, by unfold fN; rw [propB_iff.2 (.inr rfl)]; rfl, trivial⟩) plain_mo ?_
        exact m1
      | false =>
        rw [cond_false]
        have hgd : rowGd (fun e j => rowT t (0 + e) j) t.sz := by
          rw [row0]
          refine ⟨?_, (hp.ok (by omega)).1, ?_⟩
          · show KeyG (plX t).has t.sz; rw [hp.tb]; exact hp.key
          · show rowT t = rowT (plX t); rw [hp.tb]
        have hfB : fB t = true := by
          unfold fB
          rw [propB_iff.2 (.inl hgd), Nat.zero_add, Nat.ble_eq_true_of_le (Nat.le_refl _)]; rfl
        have eZ : fZ t (Z0 hs (i : Int)) = (fgT t (Z0 hs (i : Int))).sz := by unfold fZ; rw [h0, cond_false, hp.tbx]
        cases hz2 : Nat.beq (fgT t (Z0 hs (i : Int))).sz 0 with
        | true =>
          rw [hz2, cond_true] at m1
          refine MWp.head ctxZ_ok _ _ _ _ (ph_Fn kd nm ns hs n (i : Int) dst t) (tr_app2 hT ⟨e0, e1, hfA, hfB, by rw [eZ]; exact hz2, trivial⟩) plain_mo ?_
          exact m1
        | false =>
          rw [hz2, cond_false] at m1
          refine MWp.head ctxZ_ok _ _ _ _ (ph_Fr kd nm ns hs n (i : Int) dst t) (tr_app2 hT ⟨e0, e1, hfA, hfB, by rw [eZ]; exact hz2, trivial⟩) (plain_app plain_mo (plain_rowT _)) ?_
          rw [eZ, hp.tbx]; exact m1
    · have e1 : (kd (0 + (i : Int).toNat) == 1) = false := by rw [hz]; simpa using hk1
      have m1 := hm _ hp.up
      unfold plMd at m1
      cases h0 : Nat.beq t.sz 0 with
      | true =>
        rw [h0, cond_true] at m1
        rw [cond_true]
        exact MWp.head ctxZ_ok _ _ _ _ (ph_oN kd nm ns hs n (i : Int) dst t) (tr_app2 hT ⟨e0, e1, trivial⟩) plain_mo m1
      | false =>
        rw [h0, cond_false] at m1
        rw [cond_false]
        exact MWp.head ctxZ_ok _ _ _ _ (ph_oR kd nm ns hs n (i : Int) dst t) (tr_app2 hT ⟨e0, e1, trivial⟩) (plain_rw plain_mo) m1
theorem gG_ok {t : Tb} {i : Nat} (hp : PInv t i) (hi : i ≤ 61) : gG t = true := by
  unfold gG
  rw [propB_iff.2 (show isSym (fun e j => rowT t (0 + e) j) t.sz from isSym_F (hp.ok hi).1), Nat.zero_add, Nat.ble_eq_true_of_le (Nat.le_refl _)]; rfl
theorem gV_ok {t : Tb} : gV t = true := by
  have e1 : (fun e j => asSym (fun e j => symC t (0 + e) j) (0 + e) j) = asSym (symC t) := by
    have : (fun e j => symC t (0 + e) j) = symC t := funext fun e => by rw [Nat.zero_add]
    rw [this]; exact funext fun e => by rw [Nat.zero_add]
  unfold gV
  rw [e1, row0]
  unfold sameV
  rw [Nat.beq_refl, Bool.true_and]
  exact List.all_eq_true.2 fun e _ => saB_self (fun e => keyAt t.has e) (fun e => t.n (keyAt t.has e)) (fun e => t.h (keyAt t.has e)) e
theorem gZ_ok {t : Tb} {i : Nat} (hp : PInv t i) (hi : i ≤ 61) (h0 : Nat.beq t.sz 0 = false) : trusted (gZ t) := by
  have hg := gG_ok hp hi
  refine ⟨propB_iff.2 ⟨hp.ok hi, rfl⟩, h0, hg, h0, ?_, by rw [gV_ok]; rfl, trivial⟩
  unfold gS
  rw [propB_iff.2 ⟨isSym_F (hp.ok hi).1, show isSym (fun e j => rowT t (0 + e) j) t.sz from isSym_F (hp.ok hi).1⟩, Nat.zero_add, Nat.ble_eq_true_of_le (Nat.le_refl _)]; rfl
theorem pl_end (hn : n ≤ 60) {i : Nat} (hi : i < n) {dst : Option Tmp} {t : Tb} (hp : PInv t (i + 1)) (hm : MWp Try.prog (plHd kd nm ns hs n ((i + 1 : Nat) : Int) dst t) Q) : MWp Try.prog (plMd kd nm ns hs n (i : Int) dst t) Q := by
  have hw : IntKind.i64.wrap ((i : Int) + 1) = ((i + 1 : Nat) : Int) := by rw [IntKind.wrap_i64]; omega
  unfold plHd at hm
  unfold plMd
  cases h0 : Nat.beq t.sz 0 with
  | true =>
    rw [h0, cond_true] at hm
    rw [cond_true]
    have hno := hp.none (Nat.eq_of_beq_eq_true h0) (S0 nm (i : Int))
    have hG : nG = true := by unfold nG; rw [propB_iff.2 isSym0]; rfl
    refine MWp.head ctxZ_ok _ _ _ _ (ph_eZ kd nm ns hs n (i : Int) dst t) ⟨hno, hG, hno, hG, propB_iff.2 ⟨hp.ok (by omega), rfl⟩, h0, hG, by unfold nS; rw [propB_iff.2 ⟨isSym0, isSym0⟩]; rfl, trivial⟩ plain_sty ?_
    rw [hw]; exact hm
  | false =>
    rw [h0, cond_false] at hm
    rw [cond_false]
    have hg := gG_ok hp (by omega)
    have hgZ := gZ_ok hp (by omega) h0
    cases hh : t.has (S0 nm (i : Int)) with
    | true =>
      obtain ⟨e, he, he2, hF⟩ := find_yes hp.key hh
      have hF' : gF t (S0 nm (i : Int)) = (e : Int) := hF
      have hE : gE t (S0 nm (i : Int)) = S0 nm (i : Int) := by
        unfold gE; rw [hF', show 0 + (e : Int).toNat = e by omega, he2]
      have hB : trusted (gB t (S0 nm (i : Int))) := by
        unfold gB
        rw [hF']
        exact ⟨hg, decide_eq_false (by omega), by rw [decide_eq_true (show (0 : Int) ≤ (e : Int) by omega), decide_eq_true (show (e : Int) < (t.sz : Int) by omega)]; rfl, by rw [Nat.blt_eq]; omega, trivial⟩
      refine MWp.head ctxZ_ok _ _ _ _ (ph_eY kd nm ns hs n (i : Int) dst t) ⟨hh, tr_app2 hB ⟨by rw [hE]; simp, hh, tr_app2 hB ⟨by rw [hE]; simp, hgZ⟩⟩⟩ (plain_rw plain_sty) ?_
      rw [hw]; exact hm
    | false =>
      have hF : gF t (S0 nm (i : Int)) = -1 := find_no hp.key hh
      have hd : decide (gF t (S0 nm (i : Int)) < 0) = true := by rw [hF]; rfl
      refine MWp.head ctxZ_ok _ _ _ _ (ph_eN kd nm ns hs n (i : Int) dst t) (tr_app2 ⟨hh, hg, hd, hh, hg, hd, trivial⟩ hgZ) (plain_rw plain_sty) ?_
      rw [hw]; exact hm
end
theorem pl_loop {kd : Nat → Int} {nm : Nat → ByteArray} {ns hs : Nat → Int} {n : Nat} (hn : n ≤ 60) (hl : ∀ e, e < n → (nm e).size ≤ 100) : ∀ (d i : Nat) (dst : Option Tmp) (t : Tb), i ≤ n → n - i = d → PInv t i →
    MWp Try.prog (plHd kd nm ns hs n (i : Int) dst t) (fun u _ => u = .bool true)
  | 0, i, dst, t, h1, hd, hp => by
    have : i = n := by omega
    subst this
    unfold plHd
    cases Nat.beq t.sz 0 with
    | true => exact MWp.out ctxZ_ok 300 _ (ph3 kd nm ns hs i (i : Int) dst t) (by simp [trusted]) (fun _ => rfl)
    | false => exact MWp.out ctxZ_ok 300 _ (ph2 kd nm ns hs i (i : Int) dst t) (by simp [trusted]) (fun _ => rfl)
  | d + 1, i, dst, t, h1, hd, hp =>
    pl_mid hn hl (by omega) hp fun t' hp' => pl_end hn (by omega) hp' (pl_loop hn hl d (i + 1) dst t' (by omega) (by omega) hp')
theorem gPl : ctxZ.fn.get 5 = some Try.f5 := by kernel_rfl
theorem pl_calls {kd : Nat → Int} {nm : Nat → ByteArray} {ns hs : Nat → Int} {n : Nat} (hn : n ≤ 9223372036854775807) : LCalls Try.prog 5 [sls 0 n] (mkH [some (.arg 4 (opF kd nm ns hs) n)]) (fun u _ => u = .bool true) := by
  refine LCalls_of ctxZ_ok gPl (by kernel_rfl) ?_
  show MWp Try.prog (plS kd nm ns hs n) _
  cases hb : liB n (fun e => nm (0 + e)) with
  | false => exact MWp.out ctxZ_ok 300 _ (ph1 kd nm ns hs n) ⟨lgT_ok hn, by rw [hb]; rfl, trivial⟩ (fun _ => rfl)
  | true =>
    obtain ⟨h1, h2⟩ := liB_iff.1 hb
    refine MWp.head ctxZ_ok _ _ _ _ (ph0 kd nm ns hs n) ⟨lgT_ok hn, by rw [hb]; rfl, trivial⟩ plain_sty0 ?_
    refine MWp.objW (b := 1) (o := t0) (o' := mpOf tE) (by kernel_rfl) rfl rfl (by unfold big; omega) (fun ρ x h => emp_or h) ?_
    refine MWp.head ctxZ_ok _ _ _ _ (phT kd nm ns hs n) trivial plain_sty ?_
    exact pl_loop h1 (fun e he => by have := h2 e he; rw [Nat.zero_add] at this; exact this) _ 0 _ tE (by omega) rfl (pinv_E 0)
theorem pl_nil : LCalls Try.prog 5 [.slice none 0 0] (mkH []) (fun u _ => u = .bool true) := by
  refine LCalls_of ctxZ_ok gPl (by kernel_rfl) ?_
  exact MWp.out ctxZ_ok 300 _ phN ⟨by rw [propB_iff.2 isOp0]; rfl, trivial⟩ (fun _ => rfl)
theorem plays_walk (W : World) (v0 : Value) (h0 : CkOk W (.slice [.int .i64, .str, .int .u16, .int .i64]) v0) : Calls Try.prog 5 #[v0] W fun e W' => e = .returned (.bool true) ∧ Below W.heap.size W W' := by
  rcases ck_op h0 with rfl | ⟨k, kd, nm, ns, hs, pl, hr, hk⟩
  · exact calls_ro (ρ := rowsRen []) pl_nil rfl (by simp [VRL, VR]) (rows_rep (rs := []) rfl (by simp) (by simp) (by simp)) (fun _ => rfl)
  · exact calls_ro (ρ := rowsRenW [pl] (fun _ => 4)) (pl_calls hk) rfl (by simp only [VRL]; exact ⟨v0, _, VR_sls (slW_VR hr (by simp)), rfl, rfl⟩) (ops_rep hr) (fun _ => rfl)
end Go.Proofs.Ytobdoejkioenhaa
end
