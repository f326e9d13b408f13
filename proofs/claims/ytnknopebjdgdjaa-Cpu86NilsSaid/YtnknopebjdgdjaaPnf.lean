/- Part 6 of the texts that the law needs, laid together. By program (pack.py). -/
import Derived.Test.YtnknopebjdgdjaaPnc
import Derived.Test.YtnknopebjdgdjaaPnd
import Derived.Test.YtnknopebjdgdjaaPne
import Derived.KernelRfl
import Derived.Laws.BitsLemmas
set_option linter.unusedVariables false
set_option linter.unusedSimpArgs false
noncomputable section
namespace Go.Ly
open Go.RowKit
def cleanB (H : Heap) : Nat → Bool
  | 0 => true
  | n + 1 => (match H.get n with | some o => noTokO o | none => true) && cleanB H n
theorem cleanB_spec {H : Heap} : ∀ (n : Nat), cleanB H n = true → ∀ i, i < n → ∀ o, H.get i = some o → noTokO o = true
  | 0, _, i, hi, _, _ => by omega
  | n + 1, h, i, hi, o, ho => by
    simp only [cleanB, Bool.and_eq_true] at h
    rcases Nat.lt_or_ge i n with h1 | h1
    · exact cleanB_spec n h.2 i h1 o ho
    · have : i = n := by omega
      subst this
      have h2 := h.1
      rw [ho] at h2; exact h2
def haltG (keep bs : List Nat) (nx : Nat) (d : St) (r : RO) : Bool × List (Bool × Bool) × Bool × (Func × List KI × Option Tmp × Nat) × List Value × (Bool × Bool × Bool) × List (Option LO) := (r.isHalt, r.trust, (r.st d).rest.isEmpty && Nat.blt (r.st d).top.fn.ntmps 1000000, ((r.st d).top.fn, (r.st d).top.k, (r.st d).top.dst, (r.st d).base), keepV keep (r.st d).top.fn.ntmps (r.st d).top.t, (Nat.beq (r.st d).H.next nx, Nat.beq (r.st d).H.lock 0, cleanB (r.st d).H nx), bs.map (r.st d).H.get)
section
variable {P : Program} {C : Ctx} {Q : Value → Heap → Prop}
theorem MWp.haltG (hC : C.Ok P) {S d : St} {t : List (Bool × Bool)} {fn : Func} {k : List KI} {dst : Option Tmp} {base nx : Nat} {vals : List Value} {os : List (Option LO)} (keep bs : List Nat) (n : Nat) (p : Path)
    (h : Go.Ly.haltG keep bs nx d (run C n p S) = (true, t, true, (fn, k, dst, base), vals, (true, true, true), os)) (ht : trusted t)
    (hs : ∀ H, H.next = nx → H.lock = 0 → Clean H → bs.map H.get = os → MWp P (atSt fn k dst base vals H) Q) : MWp P S Q := by
  simp only [Go.Ly.haltG, Prod.mk.injEq] at h
  obtain ⟨h1, h2, h3, ⟨h4, h5, h6, h7⟩, h8, ⟨h9, h10, h11⟩, h12⟩ := h
  have hn := Nat.eq_of_beq_eq_true h9
  refine MWp.halted (H := ((run C n p S).st d).H) (fn := fn) (k := k) (dst := dst) (base := base) (vals := vals) hC keep n p (d := d) ?_ ht ?_
  · simp only [haltF, Prod.mk.injEq]
    exact ⟨h1, h2, h3, ⟨h4, h5, h6, h7⟩, h8, trivial⟩
  · refine MWp.ltn fun hlt hsm => ?_
    exact hs _ hn (Nat.eq_of_beq_eq_true h10) (fun i o ho => cleanB_spec nx h11 i (by rw [← hn]; exact hlt i o ho) o ho) h12
end
def haltH (keep bs : List Nat) (nx : Nat) (d : St) (r : RO) : Bool × List (Bool × Bool) × Bool × (Func × List KI × Option Tmp × Nat) × List Value × (Bool × Bool × Bool) × List (Option LO) := forceTr forceO (r.st d).top.t fun t => forceTr forceLO (r.st d).H.m fun hm => (r.isHalt, r.trust, (r.st d).rest.isEmpty && Nat.blt (r.st d).top.fn.ntmps 1000000, ((r.st d).top.fn, (r.st d).top.k, (r.st d).top.dst, (r.st d).base), keepV keep (r.st d).top.fn.ntmps t, (Nat.beq (r.st d).H.next nx, Nat.beq (r.st d).H.lock 0, cleanB { m := hm, next := (r.st d).H.next, lock := (r.st d).H.lock } nx), bs.map (Heap.get { m := hm, next := (r.st d).H.next, lock := (r.st d).H.lock }))
theorem haltH_eq (keep bs : List Nat) (nx : Nat) (d : St) (r : RO) : haltH keep bs nx d r = Go.Ly.haltG keep bs nx d r := by
  unfold haltH Go.Ly.haltG
  rw [forceTr_eq forceO_eq, forceTr_eq forceLO_eq]
section
variable {P : Program} {C : Ctx} {Q : Value → Heap → Prop}
theorem MWp.haltH (hC : C.Ok P) {S d : St} {t : List (Bool × Bool)} {fn : Func} {k : List KI} {dst : Option Tmp} {base nx : Nat} {vals : List Value} {os : List (Option LO)} (keep bs : List Nat) (n : Nat) (p : Path)
    (h : Go.Ly.haltH keep bs nx d (run C n p S) = (true, t, true, (fn, k, dst, base), vals, (true, true, true), os)) (ht : trusted t)
    (hs : ∀ H, H.next = nx → H.lock = 0 → Clean H → bs.map H.get = os → MWp P (atSt fn k dst base vals H) Q) : MWp P S Q :=
  MWp.haltG hC keep bs n p (by rw [← haltH_eq]; exact h) ht hs
end
def opVal (E : Env) (S : St) : Option Value :=
  match S.top.k with
  | .ops all (o :: l) :: k =>
    bif guardB all S.top.t S.top.fn.ntmps o && dstOk S.top.fn.ntmps o.dst then
      (match evOp E S.H S.top.t o with
      | .val v => some v
      | _ => none)
    else none
  | _ => none
theorem MWp.val {P : Program} {E : Env} {Q : Value → Heap → Prop} (hE : E.Ok P) {S : St} {v : Value} (h : opVal E S = some v) (hs : MWp P (behind S v S.H) Q) : MWp P S Q := by
  unfold opVal at h
  split at h
  · rename_i all o l k hk
    cases hc : (guardB all S.top.t S.top.fn.ntmps o && dstOk S.top.fn.ntmps o.dst) with
    | false => rw [hc] at h; cases h
    | true =>
      rw [hc] at h; simp only [cond_true] at h
      simp only [Bool.and_eq_true] at hc
      intro ρ w g gs R hr hf hfs hR
      unfold stateWp
      rw [hf.k, hk]
      show wpList P all _ (o :: l) g.a w
      unfold wpList
      rw [guardB_wanted P hf hc.1, if_pos rfl]
      left
      have hgood := evOp_good hE hr hf.t o
      cases he : evOp E S.H S.top.t o with
      | val u =>
        rw [he] at h hgood
        simp only [Option.some.injEq] at h
        subst h
        obtain ⟨v', hv, hrun⟩ := hgood
        unfold Oper.wp; rw [hrun]
        simp only [Oper.upon]
        refine putFr_sound (S := S) (Q := Q) (v := u) (H' := S.H) (k := .ops all l :: k) (dst := o.dst) ?_ hf hfs (Ren.le_refl ρ) (Fresh.refl ρ w) hr (Keep.refl ρ w) hv hR
        unfold putFr
        rw [hc.2]
        unfold behind at hs
        rw [hk] at hs
        exact hs
      | _ => rw [he] at h; cases h
  · cases h
end Go.Ly
namespace Go.Proofs.Ytnknopebjdgdjaa
open Go Go.Ly Go.RowKit
def Gok (n : Nat) (G : Nat → Nat → Value) : Prop := ∀ e, e < n → ∃ x y, G e 0 = .int .u16 x ∧ G e 1 = .int .u8 y ∧ B16 x ∧ B8 y
theorem Gok.ok {n : Nat} {G : Nat → Nat → Value} (h : Gok n G) (hn : n ≤ 1000) : okM n G = true := by
  unfold okM
  rw [Bool.and_eq_true, Nat.ble_eq, List.all_eq_true]
  refine ⟨hn, fun e he => ?_⟩
  obtain ⟨x, y, h1, h2, h3, h4⟩ := h e (List.mem_range.1 he)
  rw [h1, h2]
  simp [isK, kbeq, intV, (inw_iff x).2 h3]
theorem Gok.mem {n : Nat} {G : Nat → Nat → Value} (h : Gok n G) : Mem (memF (atOf G) (byOf G) n) := by
  refine memF_mem n fun e he => ?_
  obtain ⟨x, y, h1, h2, h3, h4⟩ := h e he
  show B8 (intV (G e 1))
  rw [h2]; exact h4
theorem Gok.shift {n : Nat} {G : Nat → Nat → Value} (h : Gok n G) : Gok n (fun i j => G (0 + i) j) := fun e he => by
  simp only [Nat.zero_add]; exact h e he
theorem Gok.join {m n : Nat} {g h : Nat → Nat → Value} (hg : Gok m g) (hh : Gok n h) : Gok (m + n) (joinG m g h) := fun e he => by
  simp only [joinG, vif_eq]
  cases hb : Nat.blt e m with
  | true => exact hg e (by simpa [Nat.blt_eq] using hb)
  | false =>
    have : ¬ e < m := fun x => by
      have : Nat.blt e m = true := by simpa [Nat.blt_eq] using x
      rw [this] at hb; cases hb
    exact hh (e - m) (by omega)
def bbG (fa fb : Nat → Int) : Nat → Nat → Value := fun e j => match j with | 0 => .int .u16 (fa e) | _ + 1 => .int .u8 (fb e)
theorem Gok.bb {fa fb : Nat → Int} {n : Nat} (h : ∀ e, e < n → B16 (fa e) ∧ B8 (fb e)) : Gok n (bbG fa fb) := fun e he => ⟨fa e, fb e, rfl, rfl, h e he⟩
theorem Gok.nil {G : Nat → Nat → Value} : Gok 0 G := fun e he => by omega
theorem Gok.cons {n : Nat} {x y : Int} {l : List Value} (hx : B16 x) (hy : B8 y) (h : Gok n (lstG 2 n l)) : Gok (n + 1) (lstG 2 (n + 1) (.int .u16 x :: .int .u8 y :: l)) := fun e he => by
  cases n with
  | zero =>
    obtain rfl : e = 0 := by omega
    exact ⟨x, y, rfl, rfl, hx, hy⟩
  | succ n =>
    cases e with
    | zero => exact ⟨x, y, by rw [lstG, vif_eq]; rfl, by rw [lstG, vif_eq]; rfl, hx, hy⟩
    | succ e =>
      obtain ⟨u, v, h1, h2, h3⟩ := h e (by omega)
      have e1 : Nat.beq (e + 1) 0 = false := rfl
      exact ⟨u, v, by rw [lstG, vif_eq, e1]; exact h1, by rw [lstG, vif_eq, e1]; exact h2, h3⟩
def GA (L : List Value) (c : Nat) : Nat → Nat → Value := lstG 2 c L
def GB (fa fb : Nat → Int) (q : Nat) (L : List Value) (c : Nat) : Nat → Nat → Value := fun i j => joinG (0 + (q + 1)) (fun i j => bbG fa fb (0 + (0 + i)) j) (lstG 2 c L) (0 + i) j
def gm (G : Nat → Nat → Value) (c : Nat) : Nat → Int := memF (atOf G) (byOf G) c
def gs (g : Nat → Int) : Nat → Int := fun e => g (0 + e)
theorem gs_eq (g : Nat → Int) : gs g = g := by funext e; unfold gs; rw [Nat.zero_add]
def tOk (G : Nat → Nat → Value) (c : Nat) : Bool × Bool := (okM c G, true)
def tOkB (G : Nat → Nat → Value) (q c : Nat) : Bool × Bool := (Nat.ble (0 + (q + c)) (q + c) && (true && okM (q + c) G), true)
def tR1 (k : Nat) : Bool × Bool := (Nat.ble (0 + (k + 1)) (k + 1) && (true && Nat.ble (0 + (k + 1)) 4294967296), true)
theorem tOk_ok {G : Nat → Nat → Value} {c : Nat} (h : Gok c G) (hc : c ≤ 1000) : trusted [tOk G c] := ⟨h.ok hc, trivial⟩
theorem tOkB_ok {G : Nat → Nat → Value} {q c : Nat} (h : Gok (q + c) G) (hc : q + c ≤ 1000) : trusted [tOkB G q c] := by
  refine ⟨?_, trivial⟩
  show (Nat.ble (0 + (q + c)) (q + c) && (true && okM (q + c) G)) = true
  rw [h.ok hc, Nat.zero_add, Bool.and_eq_true, Nat.ble_eq]
  exact ⟨Nat.le_refl _, rfl⟩
theorem tR1_ok {k : Nat} (h : k ≤ 1000) : trusted [tR1 k] := by
  refine ⟨?_, trivial⟩
  show (Nat.ble (0 + (k + 1)) (k + 1) && (true && Nat.ble (0 + (k + 1)) 4294967296)) = true
  rw [Nat.zero_add, Bool.and_eq_true, Bool.and_eq_true, Nat.ble_eq, Nat.ble_eq]
  exact ⟨Nat.le_refl _, rfl, by omega⟩
theorem tr_cons {x : Bool × Bool} {l : List (Bool × Bool)} (h : trusted [x]) (k : trusted l) : trusted (x :: l) := ⟨h.1, k⟩
end Go.Proofs.Ytnknopebjdgdjaa
namespace Go.Ly
open Go.RowKit
section
variable {P : Program}
def freshR (H : Heap) (nx r : Nat) (c : List Value) (t : TypeId) (z : Nat) (v : Value) : ER := bif Nat.beq H.lock 0 && Nat.blt (H.next + nx) 2147483000 then .mem (renV (fun i => H.next + i) v) { m := H.m.set (H.next + r) (some (.row c t z)), next := H.next + nx } else .no
theorem freshR_good {f : FuncId} {args : List Value} {v : Value} {nx r : Nat} {c : List Value} {t : TypeId} {z : Nat} (ha : plainL args = true) (hr : r < nx) (hc : plainL c = true)
    (h : LCalls P f args H0 (fun u K => u = v ∧ K.next = nx ∧ K.get r = some (.row c t z) ∧ K.lock = 0)) (H : Heap) : HGood P f args H (freshR H nx r c t z v) := by
  unfold freshR
  cases hb0 : (Nat.beq H.lock 0 && Nat.blt (H.next + nx) 2147483000) with
  | false => exact trivial
  | true =>
    simp only [cond_true]
    rw [Bool.and_eq_true] at hb0
    obtain ⟨hl0, hb⟩ := hb0
    have hb' : H.next + nx < 2147483000 := by simpa [Nat.blt_eq] using hb
    have hn0 : H0.next = 0 := rfl
    have hg0 : ∀ i, H0.get i = none := fun i => by simp [H0, Heap.get, Tr.get_nil]
    have hext : ext (fun _ => 0) H0.next H.next = fun i => H.next + i := by
      funext i; rw [ext_ge (by rw [hn0]; omega), hn0]; simp
    have hf := LCalls.frame (H := H) (σ := fun _ => 0) (Q := fun u K => u = renV (fun i => H.next + i) v ∧ K = { m := H.m.set (H.next + r) (some (.row c t z)), next := H.next + nx }) h
      ⟨by rw [hn0]; simp [big], Nat.eq_of_beq_eq_true hl0, (fun i hi => by rw [hn0] at hi; omega), (fun i o ho => by rw [hg0] at ho; cases ho), (fun i o ho => by rw [hg0] at ho; cases ho), (fun i j hi => by rw [hn0] at hi; omega)⟩
      (by
        rintro vs Hs' ⟨rfl, h1, h2, h3⟩
        refine ⟨_, ⟨h3, by rw [hn0]; omega, by rw [hn0, h1]; simp, by show H.next + nx < big; unfold big; exact hb', fun k o ho => ?_⟩, by rw [hext], rfl⟩
        have hk : (Heap.get { m := H.m.set (H.next + r) (some (.row c t z)), next := H.next + nx } k) = if k = H.next + r then some (.row c t z) else H.get k := Tr.get_set _ _ _ (by unfold big; omega) k
        rw [hk] at ho
        by_cases e : k = H.next + r
        · rw [if_pos e] at ho
          simp only [Option.some.injEq] at ho
          subst ho
          refine .inl ⟨r, .row c t z, by rw [hext]; exact e.symm, h2, ?_⟩
          rw [hext]; simp only [renO]; rw [renL_plain _ c hc]
        · rw [if_neg e] at ho
          exact .inr ⟨fun i hi => by rw [hn0] at hi; omega, ho⟩)
    rw [hext, renL_plain _ args ha] at hf
    exact hf
end
end Go.Ly
namespace Go.Proofs.Ytnknopebjdgdjaa
open Go Go.Ly Go.RowKit
def condB (op : Int) : Bool := (decide (42 ≤ op) && decide (op ≤ 45)) || (decide (48 ≤ op) && decide (op ≤ 51))
def nearB (n : Int) : Bool := decide (n ≤ 127) || decide (65408 ≤ n)
def jb (op n : Int) : List Value := [.int .u8 (op + 72), .int .u8 (n % 256)]
def jV : Value := .tuple ⟨[.slice (some ⟨7, 0, none⟩) 2 18446744073709551616, .int .i64 0]⟩
def jN : Value := .tuple ⟨[.slice none 0 0, .int .i64 5]⟩
def jA (op n : Int) : List Value := [.agg ⟨[.int .i64 op, .int .i64 20, .int .i64 0, .int .u16 n]⟩]
def jumpE (H : Heap) (args : List Value) : ER := match args with
  | [.agg ⟨[.int .i64 op, .int .i64 d, .int .i64 s, .int .u16 n]⟩] =>
    bif (d == 20) && (s == 0) then .tst (condB op && inw n) (.tst (nearB n) (freshR H 8 7 (jb op n) 5 1 jV) (.val jN)) .no else .no
  | _ => .no
theorem gB22 : ctxA.fn.get 22 = some Try.f22 := by kernel_rfl
theorem wb (n : Int) (h0 : 0 ≤ n) (h1 : n ≤ 65535) : IntKind.u8.wrap (bits BinOp.and IntKind.u16 n 255) = n % 256 := by
  rw [u16_and255 n h0 (by omega), IntKind.wrap_u8']; omega
theorem jb42a (n : Int) : ((Ly.run ctxA 3000 [(105, false)] (Ly.start Try.f22 (jA 42 n) H0)).end?.map fun x => (x.1, x.2.1, x.2.2.next, x.2.2.get 7)) = some ([(decide (127 < n) == true, false)], jV, 8, some (LO.row [.int .u8 114, .int .u8 (IntKind.u8.wrap (bits BinOp.and IntKind.u16 n 255))] 5 1)) := by kernel_rfl
theorem jb42b (n : Int) : ((Ly.run ctxA 3000 [(105, true), (5, false)] (Ly.start Try.f22 (jA 42 n) H0)).end?.map fun x => (x.1, x.2.1, x.2.2.next, x.2.2.get 7)) = some ([(decide (127 < n) == true, true), (decide (n < 65408), false)], jV, 8, some (LO.row [.int .u8 114, .int .u8 (IntKind.u8.wrap (bits BinOp.and IntKind.u16 n 255))] 5 1)) := by kernel_rfl
theorem jb42c (n : Int) : (Ly.run ctxA 3000 [(105, true), (5, true)] (Ly.start Try.f22 (jA 42 n) H0)).out? = some ([(decide (127 < n) == true, true), (decide (n < 65408), true)], jN) := by kernel_rfl
theorem jb42 (n : Int) (h0 : 0 ≤ n) (h1 : n ≤ 65535) (H : Heap) : HGood Try.prog 22 (jA 42 n) H (.tst (nearB n) (freshR H 8 7 (jb 42 n) 5 1 jV) (.val jN)) := by
  have ha : plainL (jA 42 n) = true := by simp [jA, plainL, plain]
  refine ⟨fun h => ?_, fun h => ?_⟩
  · simp only [nearB, Bool.or_eq_true, decide_eq_true_eq] at h
    refine freshR_good ha (by omega) (by simp [jb, plainL, plain]) ?_ H
    have e : ([.int .u8 114, .int .u8 (IntKind.u8.wrap (bits BinOp.and IntKind.u16 n 255))] : List Value) = jb 42 n := by rw [wb n h0 h1]; rfl
    rw [← e]
    by_cases h7 : 127 < n
    · exact LCalls_end ctxA_ok 3000 _ gB22 (by kernel_rfl) (jb42b n) (by simp [trusted, h7]; omega)
    · exact LCalls_end ctxA_ok 3000 _ gB22 (by kernel_rfl) (jb42a n) (by simp [trusted, h7])
  · simp only [nearB, Bool.or_eq_false_iff, decide_eq_false_iff_not] at h
    exact HGood_val ha (by simp [jN, plain, plainL]) (fun w => calls_trust ctxA_ok 3000 _ gB22 (by kernel_rfl) ha (by simp [jN, plain, plainL]) (jb42c n) (by simp [trusted]; omega) w) H
theorem jb43a (n : Int) : ((Ly.run ctxA 3000 [(105, false)] (Ly.start Try.f22 (jA 43 n) H0)).end?.map fun x => (x.1, x.2.1, x.2.2.next, x.2.2.get 7)) = some ([(decide (127 < n) == true, false)], jV, 8, some (LO.row [.int .u8 115, .int .u8 (IntKind.u8.wrap (bits BinOp.and IntKind.u16 n 255))] 5 1)) := by kernel_rfl
theorem jb43b (n : Int) : ((Ly.run ctxA 3000 [(105, true), (5, false)] (Ly.start Try.f22 (jA 43 n) H0)).end?.map fun x => (x.1, x.2.1, x.2.2.next, x.2.2.get 7)) = some ([(decide (127 < n) == true, true), (decide (n < 65408), false)], jV, 8, some (LO.row [.int .u8 115, .int .u8 (IntKind.u8.wrap (bits BinOp.and IntKind.u16 n 255))] 5 1)) := by kernel_rfl
theorem jb43c (n : Int) : (Ly.run ctxA 3000 [(105, true), (5, true)] (Ly.start Try.f22 (jA 43 n) H0)).out? = some ([(decide (127 < n) == true, true), (decide (n < 65408), true)], jN) := by kernel_rfl
theorem jb43 (n : Int) (h0 : 0 ≤ n) (h1 : n ≤ 65535) (H : Heap) : HGood Try.prog 22 (jA 43 n) H (.tst (nearB n) (freshR H 8 7 (jb 43 n) 5 1 jV) (.val jN)) := by
  have ha : plainL (jA 43 n) = true := by simp [jA, plainL, plain]
  refine ⟨fun h => ?_, fun h => ?_⟩
  · simp only [nearB, Bool.or_eq_true, decide_eq_true_eq] at h
    refine freshR_good ha (by omega) (by simp [jb, plainL, plain]) ?_ H
    have e : ([.int .u8 115, .int .u8 (IntKind.u8.wrap (bits BinOp.and IntKind.u16 n 255))] : List Value) = jb 43 n := by rw [wb n h0 h1]; rfl
    rw [← e]
    by_cases h7 : 127 < n
    · exact LCalls_end ctxA_ok 3000 _ gB22 (by kernel_rfl) (jb43b n) (by simp [trusted, h7]; omega)
    · exact LCalls_end ctxA_ok 3000 _ gB22 (by kernel_rfl) (jb43a n) (by simp [trusted, h7])
  · simp only [nearB, Bool.or_eq_false_iff, decide_eq_false_iff_not] at h
    exact HGood_val ha (by simp [jN, plain, plainL]) (fun w => calls_trust ctxA_ok 3000 _ gB22 (by kernel_rfl) ha (by simp [jN, plain, plainL]) (jb43c n) (by simp [trusted]; omega) w) H
theorem jb44a (n : Int) : ((Ly.run ctxA 3000 [(105, false)] (Ly.start Try.f22 (jA 44 n) H0)).end?.map fun x => (x.1, x.2.1, x.2.2.next, x.2.2.get 7)) = some ([(decide (127 < n) == true, false)], jV, 8, some (LO.row [.int .u8 116, .int .u8 (IntKind.u8.wrap (bits BinOp.and IntKind.u16 n 255))] 5 1)) := by kernel_rfl
theorem jb44b (n : Int) : ((Ly.run ctxA 3000 [(105, true), (5, false)] (Ly.start Try.f22 (jA 44 n) H0)).end?.map fun x => (x.1, x.2.1, x.2.2.next, x.2.2.get 7)) = some ([(decide (127 < n) == true, true), (decide (n < 65408), false)], jV, 8, some (LO.row [.int .u8 116, .int .u8 (IntKind.u8.wrap (bits BinOp.and IntKind.u16 n 255))] 5 1)) := by kernel_rfl
theorem jb44c (n : Int) : (Ly.run ctxA 3000 [(105, true), (5, true)] (Ly.start Try.f22 (jA 44 n) H0)).out? = some ([(decide (127 < n) == true, true), (decide (n < 65408), true)], jN) := by kernel_rfl
theorem jb44 (n : Int) (h0 : 0 ≤ n) (h1 : n ≤ 65535) (H : Heap) : HGood Try.prog 22 (jA 44 n) H (.tst (nearB n) (freshR H 8 7 (jb 44 n) 5 1 jV) (.val jN)) := by
  have ha : plainL (jA 44 n) = true := by simp [jA, plainL, plain]
  refine ⟨fun h => ?_, fun h => ?_⟩
  · simp only [nearB, Bool.or_eq_true, decide_eq_true_eq] at h
    refine freshR_good ha (by omega) (by simp [jb, plainL, plain]) ?_ H
    have e : ([.int .u8 116, .int .u8 (IntKind.u8.wrap (bits BinOp.and IntKind.u16 n 255))] : List Value) = jb 44 n := by rw [wb n h0 h1]; rfl
    rw [← e]
    by_cases h7 : 127 < n
    · exact LCalls_end ctxA_ok 3000 _ gB22 (by kernel_rfl) (jb44b n) (by simp [trusted, h7]; omega)
    · exact LCalls_end ctxA_ok 3000 _ gB22 (by kernel_rfl) (jb44a n) (by simp [trusted, h7])
  · simp only [nearB, Bool.or_eq_false_iff, decide_eq_false_iff_not] at h
    exact HGood_val ha (by simp [jN, plain, plainL]) (fun w => calls_trust ctxA_ok 3000 _ gB22 (by kernel_rfl) ha (by simp [jN, plain, plainL]) (jb44c n) (by simp [trusted]; omega) w) H
theorem jb45a (n : Int) : ((Ly.run ctxA 3000 [(105, false)] (Ly.start Try.f22 (jA 45 n) H0)).end?.map fun x => (x.1, x.2.1, x.2.2.next, x.2.2.get 7)) = some ([(decide (127 < n) == true, false)], jV, 8, some (LO.row [.int .u8 117, .int .u8 (IntKind.u8.wrap (bits BinOp.and IntKind.u16 n 255))] 5 1)) := by kernel_rfl
theorem jb45b (n : Int) : ((Ly.run ctxA 3000 [(105, true), (5, false)] (Ly.start Try.f22 (jA 45 n) H0)).end?.map fun x => (x.1, x.2.1, x.2.2.next, x.2.2.get 7)) = some ([(decide (127 < n) == true, true), (decide (n < 65408), false)], jV, 8, some (LO.row [.int .u8 117, .int .u8 (IntKind.u8.wrap (bits BinOp.and IntKind.u16 n 255))] 5 1)) := by kernel_rfl
theorem jb45c (n : Int) : (Ly.run ctxA 3000 [(105, true), (5, true)] (Ly.start Try.f22 (jA 45 n) H0)).out? = some ([(decide (127 < n) == true, true), (decide (n < 65408), true)], jN) := by kernel_rfl
theorem jb45 (n : Int) (h0 : 0 ≤ n) (h1 : n ≤ 65535) (H : Heap) : HGood Try.prog 22 (jA 45 n) H (.tst (nearB n) (freshR H 8 7 (jb 45 n) 5 1 jV) (.val jN)) := by
  have ha : plainL (jA 45 n) = true := by simp [jA, plainL, plain]
  refine ⟨fun h => ?_, fun h => ?_⟩
  · simp only [nearB, Bool.or_eq_true, decide_eq_true_eq] at h
    refine freshR_good ha (by omega) (by simp [jb, plainL, plain]) ?_ H
    have e : ([.int .u8 117, .int .u8 (IntKind.u8.wrap (bits BinOp.and IntKind.u16 n 255))] : List Value) = jb 45 n := by rw [wb n h0 h1]; rfl
    rw [← e]
    by_cases h7 : 127 < n
    · exact LCalls_end ctxA_ok 3000 _ gB22 (by kernel_rfl) (jb45b n) (by simp [trusted, h7]; omega)
    · exact LCalls_end ctxA_ok 3000 _ gB22 (by kernel_rfl) (jb45a n) (by simp [trusted, h7])
  · simp only [nearB, Bool.or_eq_false_iff, decide_eq_false_iff_not] at h
    exact HGood_val ha (by simp [jN, plain, plainL]) (fun w => calls_trust ctxA_ok 3000 _ gB22 (by kernel_rfl) ha (by simp [jN, plain, plainL]) (jb45c n) (by simp [trusted]; omega) w) H
theorem jb48a (n : Int) : ((Ly.run ctxA 3000 [(108, false)] (Ly.start Try.f22 (jA 48 n) H0)).end?.map fun x => (x.1, x.2.1, x.2.2.next, x.2.2.get 7)) = some ([(decide (127 < n) == true, false)], jV, 8, some (LO.row [.int .u8 120, .int .u8 (IntKind.u8.wrap (bits BinOp.and IntKind.u16 n 255))] 5 1)) := by kernel_rfl
theorem jb48b (n : Int) : ((Ly.run ctxA 3000 [(108, true), (5, false)] (Ly.start Try.f22 (jA 48 n) H0)).end?.map fun x => (x.1, x.2.1, x.2.2.next, x.2.2.get 7)) = some ([(decide (127 < n) == true, true), (decide (n < 65408), false)], jV, 8, some (LO.row [.int .u8 120, .int .u8 (IntKind.u8.wrap (bits BinOp.and IntKind.u16 n 255))] 5 1)) := by kernel_rfl
theorem jb48c (n : Int) : (Ly.run ctxA 3000 [(108, true), (5, true)] (Ly.start Try.f22 (jA 48 n) H0)).out? = some ([(decide (127 < n) == true, true), (decide (n < 65408), true)], jN) := by kernel_rfl
theorem jb48 (n : Int) (h0 : 0 ≤ n) (h1 : n ≤ 65535) (H : Heap) : HGood Try.prog 22 (jA 48 n) H (.tst (nearB n) (freshR H 8 7 (jb 48 n) 5 1 jV) (.val jN)) := by
  have ha : plainL (jA 48 n) = true := by simp [jA, plainL, plain]
  refine ⟨fun h => ?_, fun h => ?_⟩
  · simp only [nearB, Bool.or_eq_true, decide_eq_true_eq] at h
    refine freshR_good ha (by omega) (by simp [jb, plainL, plain]) ?_ H
    have e : ([.int .u8 120, .int .u8 (IntKind.u8.wrap (bits BinOp.and IntKind.u16 n 255))] : List Value) = jb 48 n := by rw [wb n h0 h1]; rfl
    rw [← e]
    by_cases h7 : 127 < n
    · exact LCalls_end ctxA_ok 3000 _ gB22 (by kernel_rfl) (jb48b n) (by simp [trusted, h7]; omega)
    · exact LCalls_end ctxA_ok 3000 _ gB22 (by kernel_rfl) (jb48a n) (by simp [trusted, h7])
  · simp only [nearB, Bool.or_eq_false_iff, decide_eq_false_iff_not] at h
    exact HGood_val ha (by simp [jN, plain, plainL]) (fun w => calls_trust ctxA_ok 3000 _ gB22 (by kernel_rfl) ha (by simp [jN, plain, plainL]) (jb48c n) (by simp [trusted]; omega) w) H
theorem jb49a (n : Int) : ((Ly.run ctxA 3000 [(108, false)] (Ly.start Try.f22 (jA 49 n) H0)).end?.map fun x => (x.1, x.2.1, x.2.2.next, x.2.2.get 7)) = some ([(decide (127 < n) == true, false)], jV, 8, some (LO.row [.int .u8 121, .int .u8 (IntKind.u8.wrap (bits BinOp.and IntKind.u16 n 255))] 5 1)) := by kernel_rfl
theorem jb49b (n : Int) : ((Ly.run ctxA 3000 [(108, true), (5, false)] (Ly.start Try.f22 (jA 49 n) H0)).end?.map fun x => (x.1, x.2.1, x.2.2.next, x.2.2.get 7)) = some ([(decide (127 < n) == true, true), (decide (n < 65408), false)], jV, 8, some (LO.row [.int .u8 121, .int .u8 (IntKind.u8.wrap (bits BinOp.and IntKind.u16 n 255))] 5 1)) := by kernel_rfl
theorem jb49c (n : Int) : (Ly.run ctxA 3000 [(108, true), (5, true)] (Ly.start Try.f22 (jA 49 n) H0)).out? = some ([(decide (127 < n) == true, true), (decide (n < 65408), true)], jN) := by kernel_rfl
theorem jb49 (n : Int) (h0 : 0 ≤ n) (h1 : n ≤ 65535) (H : Heap) : HGood Try.prog 22 (jA 49 n) H (.tst (nearB n) (freshR H 8 7 (jb 49 n) 5 1 jV) (.val jN)) := by
  have ha : plainL (jA 49 n) = true := by simp [jA, plainL, plain]
  refine ⟨fun h => ?_, fun h => ?_⟩
  · simp only [nearB, Bool.or_eq_true, decide_eq_true_eq] at h
    refine freshR_good ha (by omega) (by simp [jb, plainL, plain]) ?_ H
    have e : ([.int .u8 121, .int .u8 (IntKind.u8.wrap (bits BinOp.and IntKind.u16 n 255))] : List Value) = jb 49 n := by rw [wb n h0 h1]; rfl
    rw [← e]
    by_cases h7 : 127 < n
    · exact LCalls_end ctxA_ok 3000 _ gB22 (by kernel_rfl) (jb49b n) (by simp [trusted, h7]; omega)
    · exact LCalls_end ctxA_ok 3000 _ gB22 (by kernel_rfl) (jb49a n) (by simp [trusted, h7])
  · simp only [nearB, Bool.or_eq_false_iff, decide_eq_false_iff_not] at h
    exact HGood_val ha (by simp [jN, plain, plainL]) (fun w => calls_trust ctxA_ok 3000 _ gB22 (by kernel_rfl) ha (by simp [jN, plain, plainL]) (jb49c n) (by simp [trusted]; omega) w) H
theorem jb50a (n : Int) : ((Ly.run ctxA 3000 [(108, false)] (Ly.start Try.f22 (jA 50 n) H0)).end?.map fun x => (x.1, x.2.1, x.2.2.next, x.2.2.get 7)) = some ([(decide (127 < n) == true, false)], jV, 8, some (LO.row [.int .u8 122, .int .u8 (IntKind.u8.wrap (bits BinOp.and IntKind.u16 n 255))] 5 1)) := by kernel_rfl
theorem jb50b (n : Int) : ((Ly.run ctxA 3000 [(108, true), (5, false)] (Ly.start Try.f22 (jA 50 n) H0)).end?.map fun x => (x.1, x.2.1, x.2.2.next, x.2.2.get 7)) = some ([(decide (127 < n) == true, true), (decide (n < 65408), false)], jV, 8, some (LO.row [.int .u8 122, .int .u8 (IntKind.u8.wrap (bits BinOp.and IntKind.u16 n 255))] 5 1)) := by kernel_rfl
theorem jb50c (n : Int) : (Ly.run ctxA 3000 [(108, true), (5, true)] (Ly.start Try.f22 (jA 50 n) H0)).out? = some ([(decide (127 < n) == true, true), (decide (n < 65408), true)], jN) := by kernel_rfl
theorem jb50 (n : Int) (h0 : 0 ≤ n) (h1 : n ≤ 65535) (H : Heap) : HGood Try.prog 22 (jA 50 n) H (.tst (nearB n) (freshR H 8 7 (jb 50 n) 5 1 jV) (.val jN)) := by
  have ha : plainL (jA 50 n) = true := by simp [jA, plainL, plain]
  refine ⟨fun h => ?_, fun h => ?_⟩
  · simp only [nearB, Bool.or_eq_true, decide_eq_true_eq] at h
    refine freshR_good ha (by omega) (by simp [jb, plainL, plain]) ?_ H
    have e : ([.int .u8 122, .int .u8 (IntKind.u8.wrap (bits BinOp.and IntKind.u16 n 255))] : List Value) = jb 50 n := by rw [wb n h0 h1]; rfl
    rw [← e]
    by_cases h7 : 127 < n
    · exact LCalls_end ctxA_ok 3000 _ gB22 (by kernel_rfl) (jb50b n) (by simp [trusted, h7]; omega)
    · exact LCalls_end ctxA_ok 3000 _ gB22 (by kernel_rfl) (jb50a n) (by simp [trusted, h7])
  · simp only [nearB, Bool.or_eq_false_iff, decide_eq_false_iff_not] at h
    exact HGood_val ha (by simp [jN, plain, plainL]) (fun w => calls_trust ctxA_ok 3000 _ gB22 (by kernel_rfl) ha (by simp [jN, plain, plainL]) (jb50c n) (by simp [trusted]; omega) w) H
theorem jb51a (n : Int) : ((Ly.run ctxA 3000 [(108, false)] (Ly.start Try.f22 (jA 51 n) H0)).end?.map fun x => (x.1, x.2.1, x.2.2.next, x.2.2.get 7)) = some ([(decide (127 < n) == true, false)], jV, 8, some (LO.row [.int .u8 123, .int .u8 (IntKind.u8.wrap (bits BinOp.and IntKind.u16 n 255))] 5 1)) := by kernel_rfl
theorem jb51b (n : Int) : ((Ly.run ctxA 3000 [(108, true), (5, false)] (Ly.start Try.f22 (jA 51 n) H0)).end?.map fun x => (x.1, x.2.1, x.2.2.next, x.2.2.get 7)) = some ([(decide (127 < n) == true, true), (decide (n < 65408), false)], jV, 8, some (LO.row [.int .u8 123, .int .u8 (IntKind.u8.wrap (bits BinOp.and IntKind.u16 n 255))] 5 1)) := by kernel_rfl
theorem jb51c (n : Int) : (Ly.run ctxA 3000 [(108, true), (5, true)] (Ly.start Try.f22 (jA 51 n) H0)).out? = some ([(decide (127 < n) == true, true), (decide (n < 65408), true)], jN) := by kernel_rfl
theorem jb51 (n : Int) (h0 : 0 ≤ n) (h1 : n ≤ 65535) (H : Heap) : HGood Try.prog 22 (jA 51 n) H (.tst (nearB n) (freshR H 8 7 (jb 51 n) 5 1 jV) (.val jN)) := by
  have ha : plainL (jA 51 n) = true := by simp [jA, plainL, plain]
  refine ⟨fun h => ?_, fun h => ?_⟩
  · simp only [nearB, Bool.or_eq_true, decide_eq_true_eq] at h
    refine freshR_good ha (by omega) (by simp [jb, plainL, plain]) ?_ H
    have e : ([.int .u8 123, .int .u8 (IntKind.u8.wrap (bits BinOp.and IntKind.u16 n 255))] : List Value) = jb 51 n := by rw [wb n h0 h1]; rfl
    rw [← e]
    by_cases h7 : 127 < n
    · exact LCalls_end ctxA_ok 3000 _ gB22 (by kernel_rfl) (jb51b n) (by simp [trusted, h7]; omega)
    · exact LCalls_end ctxA_ok 3000 _ gB22 (by kernel_rfl) (jb51a n) (by simp [trusted, h7])
  · simp only [nearB, Bool.or_eq_false_iff, decide_eq_false_iff_not] at h
    exact HGood_val ha (by simp [jN, plain, plainL]) (fun w => calls_trust ctxA_ok 3000 _ gB22 (by kernel_rfl) ha (by simp [jN, plain, plainL]) (jb51c n) (by simp [trusted]; omega) w) H
theorem jump_good (H : Heap) (args : List Value) : HGood Try.prog 22 args H (jumpE H args) := by
  unfold jumpE
  split
  · rename_i op d s n
    cases hds : ((d == 20) && (s == 0)) with
    | false => exact trivial
    | true =>
      simp only [Bool.and_eq_true, beq_iff_eq] at hds
      obtain ⟨rfl, rfl⟩ := hds
      simp only [cond_true]
      refine ⟨fun h => ?_, fun _ => trivial⟩
      simp only [condB, Bool.and_eq_true, Bool.or_eq_true, decide_eq_true_eq, inw_iff] at h
      obtain ⟨ho, h0, h1⟩ := h
      have : op = 42 ∨ op = 43 ∨ op = 44 ∨ op = 45 ∨ op = 48 ∨ op = 49 ∨ op = 50 ∨ op = 51 := by omega
      rcases this with rfl | rfl | rfl | rfl | rfl | rfl | rfl | rfl
      · exact jb42 n h0 h1 H
      · exact jb43 n h0 h1 H
      · exact jb44 n h0 h1 H
      · exact jb45 n h0 h1 H
      · exact jb48 n h0 h1 H
      · exact jb49 n h0 h1 H
      · exact jb50 n h0 h1 H
      · exact jb51 n h0 h1 H
  · exact trivial
def condC (l : List Value) : Option (Bool × Value) := match l with
  | [.int .i64 op] => some (true, .bool (condB op))
  | _ => none
theorem gB21 : ctxA.fn.get 21 = some Try.f21 := by kernel_rfl
theorem cc0 (x : Int) : (Ly.run ctxA 3000 [(0, true), (2, true), (2, true)] (Ly.start Try.f21 [.int .i64 x] H0)).out? = some ([(decide (42 ≤ x) == true, true), (decide (x ≤ 45) == false, true), (decide (48 ≤ x) == true, true)], .bool (decide (x ≤ 51))) := by kernel_rfl
theorem cc1 (x : Int) : (Ly.run ctxA 3000 [(0, true), (2, true), (2, false)] (Ly.start Try.f21 [.int .i64 x] H0)).out? = some ([(decide (42 ≤ x) == true, true), (decide (x ≤ 45) == false, true), (decide (48 ≤ x) == true, false)], .bool false) := by kernel_rfl
theorem cc2 (x : Int) : (Ly.run ctxA 3000 [(0, true), (2, false)] (Ly.start Try.f21 [.int .i64 x] H0)).out? = some ([(decide (42 ≤ x) == true, true), (decide (x ≤ 45) == false, false)], .bool true) := by kernel_rfl
theorem cc3 (x : Int) : (Ly.run ctxA 3000 [(0, false), (5, false)] (Ly.start Try.f21 [.int .i64 x] H0)).out? = some ([(decide (42 ≤ x) == true, false), (decide (48 ≤ x) == true, false)], .bool false) := by kernel_rfl
theorem cond_ans : Answers Try.prog 21 condC := by
  intro args g v h hg
  unfold condC at h
  split at h
  · rename_i x
    simp only [Option.some.injEq, Prod.mk.injEq] at h
    obtain ⟨rfl, rfl⟩ := h
    refine ⟨by simp [plain, plainL], by simp [plain], fun w => ?_⟩
    have key : ∀ (q : Path) (t : List (Bool × Bool)) (b : Bool), (Ly.run ctxA 3000 q (Ly.start Try.f21 [.int .i64 x] H0)).out? = some (t, .bool b) → trusted t → b = condB x →
        Calls Try.prog 21 ⟨[.int .i64 x]⟩ w (fun e w' => e = .returned (.bool (condB x)) ∧ Below w.heap.size w w') := by
      intro q t b h1 h2 h3
      rw [← h3]
      exact calls_trust ctxA_ok 3000 q gB21 (by kernel_rfl) (by simp [plain, plainL]) (by simp [plain]) h1 h2 w
    by_cases h1 : 42 ≤ x
    · by_cases h2 : x ≤ 45
      · exact key _ _ _ (cc2 x) (by simp [trusted, h1, h2]) (by simp [condB, h1, h2])
      · by_cases h3 : 48 ≤ x
        · exact key _ _ _ (cc0 x) (by simp [trusted, h1, h2, h3]) (by simp [condB, h1, h2, h3])
        · exact key _ _ _ (cc1 x) (by simp [trusted, h1, h2, h3]) (by simp [condB, h1, h2, h3])
    · exact key _ _ _ (cc3 x) (by simp [trusted, h1]; omega) (by simp [condB, h1]; omega)
  · cases h
def ctxK0 : Ctx := ctxA.withH 30 memC |>.withH 22 jumpE |>.with 21 condC
theorem ctxK0_ok : ctxK0.Ok Try.prog := ((ctxA_ok.withH memC_good).withH jump_good).with cond_ans
def ctxK1 : Ctx := ctxK0.withH 16 (hconTree ctxK0 600 16) |>.withH 15 (hconTree ctxK0 3000 15)
theorem ctxK1_ok : ctxK1.Ok Try.prog := (ctxK0_ok.byRun ctxK0_ok 600 16).byRun ctxK0_ok 3000 15
def ctxK : Ctx := haltAt ctxK1 17
theorem ctxK_ok : ctxK.Ok Try.prog := haltAt_ok ctxK1_ok 17
end Go.Proofs.Ytnknopebjdgdjaa
namespace Go.Proofs.Ytnknopebjdgdjaa
open Go Go.Ly Go.RowKit
def rd5 : St := Ly.start Try.f5 [] H0
def sv0 : Sv := ⟨0, 0, 0, 0, 0, 0, 0, 0, false, false, false, false, false, 0, false⟩
def mOf (s : Sv) : Mc := ⟨s.r0, s.r1, s.r2, s.r3, s.r4, s.r5, s.r6, s.r7, s.fs, s.fz, s.fx, s.fp, s.fc, s.ip, s.ie, false⟩
def k5 : List KI := ((Ly.run ctxK 9000 [] (Ly.start Try.f5 [svV sv0 nilS nilS nilS, .int .i64 42, .int .u16 1] (mkH [some (ints .u8 (fun _ => 0) 0), some (bytes2 (fun _ => 0) (fun _ => 0) 0), some (bytes2 (fun _ => 0) (fun _ => 0) 0)]))).st rd5).top.k
def inV (x j n : Nat) : Value := .slice (some ⟨x, j, none⟩) n 18446744073709551616
def GD (fc fd : Nat → Int) : Nat → Nat → Value := fun i j => bbG fc fd (0 + i) j
def tLi (n : Nat) : Bool × Bool := (decide (((n + 1 : Nat) : Int) ≤ 300) == true, true)
def tLc (k : Nat) : Bool × Bool := (decide (((k + 1 : Nat) : Int) ≤ 600) == true, true)
def tLd (l : Nat) : Bool × Bool := ((!(decide ((l : Int) ≤ 300))) == false, true)
def tMe (n : Nat) : Bool × Bool := (decide ((256 : Int) < ((n + 1 : Nat) : Int)) == false, true)
def tMx (n : Nat) : Bool × Bool := (decide ((256 : Int) < ((n + 1 : Nat) : Int)), false)
def tR2 (k : Nat) : Bool × Bool := (true && (Nat.ble (0 + (0 + (k + 1))) (k + 1) && ((Nat.beq 2 2 && (Nat.beq 78 78 && (Nat.beq (k + 1) (0 + (k + 1)) && true))) && (Nat.ble 1 (0 + (k + 1)) && Nat.ble (0 + (k + 1) + 1) 4294967296))), true)
def tOd (fc fd : Nat → Int) (l : Nat) : Bool × Bool := (Nat.ble (0 + l) l && (true && okM l (GD fc fd)), true)
end Go.Proofs.Ytnknopebjdgdjaa
namespace Go.Proofs.Ytnknopebjdgdjaa
open Go Go.Ly Go.RowKit
theorem gStep : env.bare.fn.get 17 = some Try.f17 := by kernel_rfl
theorem nil_step : (Ly.run env.bare 100 [] (Ly.start Try.f17 [.pointer none] H0)).out? = some ([], .int .i64 14) := by kernel_rfl
def nilC (l : List Value) : Option (Bool × Value) := match l with
  | [.pointer none] => some (true, .int .i64 14)
  | _ => none
theorem nil_ans : Answers Try.prog 17 nilC := by
  intro args g v h hg
  unfold nilC at h
  split at h
  · simp only [Option.some.injEq, Prod.mk.injEq] at h
    obtain ⟨rfl, rfl⟩ := h
    exact ⟨by simp [plain, plainL], by simp [plain, plainL], fun w => calls_trust (Env.bare_ok envOk) 100 [] gStep (by kernel_rfl) (by simp [plain, plainL]) (by simp [plain, plainL]) nil_step trivial w⟩
  · cases h
def ctxN : Ctx := ctxK.with 17 nilC
theorem ctxN_ok : ctxN.Ok Try.prog := ctxK_ok.with nil_ans
end Go.Proofs.Ytnknopebjdgdjaa
namespace Go.Ly
open Go.RowKit
section
variable {P : Program} {E : Env} {ρ : Ren} {H : Heap} {w : World}
def Ren.see (ρ : Ren) (i b c : Nat) : Ren :=
  ⟨fun j => if j = i then some b else ρ j, fun j => if j = i then c else ρ.cap j, fun j => if j = i then true else ρ.ro j, fun j => if j = i then 0 else ρ.off j, fun j => if j = i then 1 else ρ.wd j, ρ.tok⟩
theorem see_le (hr : Rep ρ H w) (b c : Nat) : Ren.le ρ (ρ.see H.next b c) := ⟨fun j x e => by
  have : j ≠ H.next := by have := (hr.dom j x e).1; omega
  exact ⟨by simp [Ren.see, this], by simp [Ren.see, this], by simp [Ren.see, this], by simp [Ren.see, this], by simp [Ren.see, this]⟩, rfl⟩
def convH (H : Heap) (i : Nat) (cs : List Value) : Heap := { m := (H.m.set i none).set H.next (some (.arg 1 (fun e _ => cs[e]?.getD undef) cs.length)), next := H.next + 1, lock := H.lock }
theorem freeze_at (w : World) (b n : Nat) {o : Obj} (j : Nat) (h : j ≠ b) : (w.freeze ⟨b, n, none⟩ 1).heap[j]? = w.heap[j]? := by
  unfold World.freeze
  rw [if_neg (by decide)]
  show (w.heap.modify b _)[j]? = _
  rw [Array.getElem?_modify, if_neg (fun e => h e.symm)]
theorem freeze_size (w : World) (b n : Nat) : (w.freeze ⟨b, n, none⟩ 1).heap.size = w.heap.size := by
  unfold World.freeze
  rw [if_neg (by decide)]
  show (w.heap.modify b _).size = _
  rw [Array.size_modify]
theorem conv_good (hE : E.Ok P) (hr : Rep ρ H w) (hl : H.lock = 0) (hb : H.next + 1 < big) {s e t : TypeId} {i q : TI} {a n c : Nat} {cs : List Value} {x' : Value}
    (hs : E.ty.get s = some i) (hsd : i.desc = .slice e) (he : E.ty.get e = some q) (hed : q.desc = .int .u8) (ho : H.get a = some (.cells cs t)) (hc : cs.all cst = true) (hn : n ≠ 0) (hnc : n ≤ cs.length) (hcc : c ≠ capU) (hx : VR ρ (.slice (some ⟨a, 0, none⟩) n c) x') :
    Next.Good P ρ w (valued ((convert s s x').run P w)) (.mem (.slice (some ⟨H.next, 0, none⟩) n c) (convH H a cs)) := by
  obtain ⟨hu, _, _⟩ := hE.ty s i hs
  obtain ⟨hv, _, _⟩ := hE.ty e q he
  rw [hsd] at hu; rw [hed] at hv
  simp only [VR] at hx
  obtain ⟨a', c', rfl, h2, h3, h4⟩ := hx
  obtain ⟨b, hab, rfl, _⟩ := h4 hn
  have h3' := h3 hcc
  subst h3'
  obtain ⟨hro, b', o', hab', hbo, hor⟩ := hr.obj a _ ho rfl
  have hbb : b' = b := by rw [hab] at hab'; exact (Option.some.inj hab').symm
  subst hbb
  obtain ⟨hoff, c1, hv1, rfl⟩ := hor
  have hro0 : ρ.ro a = false := hro (by rw [hl]; exact Nat.zero_le _)
  have hat : ρ.at ⟨a, 0, none⟩ = 0 := by simp [Ren.at, hoff]
  have hlen : c1.length = cs.length := VRL.length hv1
  have han : a < H.next := hr.ltn a _ ho
  have hsz : b' < w.heap.size := (hr.dom a b' hab).2
  have hget : ∀ j, (convH H a cs).get j = if j = H.next then some (.arg 1 (fun e _ => cs[e]?.getD undef) cs.length) else if j = a then none else H.get j := by
    intro j
    show ((H.m.set a none).set H.next _).get j = _
    rw [Tr.get_set _ _ _ (by unfold big at *; omega) j]
    by_cases hj : j = H.next
    · simp [hj]
    · rw [if_neg hj, if_neg hj, Tr.get_set _ _ _ (by unfold big at *; omega) j]; rfl
  let w' := w.freeze ⟨b', c1.length, none⟩ 1
  have hw' : ∀ j, j ≠ b' → w'.heap[j]? = w.heap[j]? := fun j hj => freeze_at w b' _ (o := .cells ⟨c1⟩ t (0, 0)) j hj
  have hwb : ∀ p : Addr, p.block = b' → w'.cell? p = w.cell? p := fun p hp => by
    unfold World.cell?
    have : w'.heap[b']? = some (.cells ⟨c1⟩ t (c1.length, c1.length + 1)) := by
      show (w.freeze _ 1).heap[b']? = _
      unfold World.freeze
      rw [if_neg (by decide)]
      show (w.heap.modify b' _)[b']? = _
      rw [Array.getElem?_modify, if_pos rfl, hbo]
      rfl
    rw [hp, this, hbo]
  have hrun : (convert s s (.slice (some ⟨b', ρ.at ⟨a, 0, none⟩, none⟩) n c')).run P w = .ok (.slice (some ⟨b', ρ.at ⟨a, 0, none⟩, none⟩) n c') w' := by
    have hsh : w.shape? b' = some (t, c1.length) := by unfold World.shape?; rw [hbo]; rfl
    simp [convert, run_underlying hu, run_underlying hv, markStringish, hsh]
    rfl
  refine ⟨ρ.see H.next b' c', _, w', see_le hr b' c', ?_, ?_, by rw [hrun]; rfl, ⟨hb, ?_, ?_, ?_, ?_, ?_⟩, ⟨rfl, rfl, rfl, by rw [freeze_size]; exact Nat.le_refl _, ?_⟩⟩
  · intro j x hx
    simp only [Ren.see] at hx
    by_cases hj : j = H.next
    · rw [if_pos hj] at hx
      simp only [Option.some.injEq] at hx; subst hx
      exact .inr ⟨a, hab, fun h => by simp [Ren.see, hj] at h⟩
    · rw [if_neg hj] at hx
      exact .inr ⟨j, hx, fun h => by simpa [Ren.see, hj] using h⟩
  · simp only [VR]
    exact ⟨⟨b', ρ.at ⟨a, 0, none⟩, none⟩, c', rfl, h2, fun _ => rfl, fun _ => ⟨b', by simp [Ren.see], by rw [hat]; simp [Ren.at, Ren.see], fun hh => absurd hh hcc⟩⟩
  · intro j x hx
    simp only [Ren.see] at hx
    show j < H.next + 1 ∧ x < w'.heap.size
    rw [freeze_size]
    by_cases hj : j = H.next
    · rw [if_pos hj] at hx
      simp only [Option.some.injEq] at hx; subst hx
      exact ⟨by omega, hsz⟩
    · rw [if_neg hj] at hx
      have := hr.dom j x hx
      exact ⟨by omega, this.2⟩
  · intro j k x o hj hoo hk h1 h2
    rw [hget] at hj hk
    have hjn : j ≠ H.next := by
      intro e; rw [if_pos e] at hj; simp only [Option.some.injEq] at hj; subst hj; cases hoo
    rw [if_neg hjn] at hj
    have hja : j ≠ a := by intro e; rw [if_pos e] at hj; cases hj
    rw [if_neg hja] at hj
    have h1' : ρ j = some x := by simpa [Ren.see, hjn] using h1
    by_cases hkn : k = H.next
    · have : x = b' := by have : (ρ.see H.next b' c') k = some b' := by simp [Ren.see, hkn]
                          rw [this] at h2; exact (Option.some.inj h2).symm
      subst this
      exact absurd (hr.inj j a x o hj hoo (by rw [ho]; rfl) h1' hab) hja
    · rw [if_neg hkn] at hk
      have hka : k ≠ a := by intro e; rw [if_pos e] at hk; cases hk
      rw [if_neg hka] at hk
      exact hr.inj j k x o hj hoo hk h1' (by simpa [Ren.see, hkn] using h2)
  · intro j o hj
    rw [hget] at hj
    show j < H.next + 1
    by_cases hjn : j = H.next
    · omega
    · rw [if_neg hjn] at hj
      by_cases hja : j = a
      · omega
      · rw [if_neg hja] at hj
        have := hr.ltn j o hj; omega
  · intro j o hj hoo
    rw [hget] at hj
    have hjn : j ≠ H.next := by
      intro e; rw [if_pos e] at hj; simp only [Option.some.injEq] at hj; subst hj; cases hoo
    rw [if_neg hjn] at hj
    have hja : j ≠ a := by intro e; rw [if_pos e] at hj; cases hj
    rw [if_neg hja] at hj
    obtain ⟨k1, x, o', k2, k3, k4⟩ := hr.obj j o hj hoo
    have hxb : x ≠ b' := by
      intro e; subst e
      exact hja (hr.inj j a x o hj hoo (by rw [ho]; rfl) k2 hab)
    refine ⟨fun hlk => by simpa [Ren.see, hjn] using k1 hlk, x, o', by simpa [Ren.see, hjn] using k2, by rw [hw' x hxb]; exact k3, OR.mono (see_le hr b' c') (by simp [Ren.see, hjn]) (by simp [Ren.see, hjn]) (by simp [Ren.see, hjn]) o o' k4⟩
  · intro j k g m hj
    rw [hget] at hj
    by_cases hjn : j = H.next
    · rw [if_pos hjn] at hj
      simp only [Option.some.injEq, LO.arg.injEq] at hj
      obtain ⟨rfl, rfl, rfl⟩ := hj
      subst hjn
      refine ⟨by simp [Ren.see], ⟨by simp [Ren.see], fun e j he hj => ?_⟩⟩
      obtain rfl : j = 0 := by omega
      have hce : cs[e]? = some cs[e] := List.getElem?_eq_getElem he
      obtain ⟨v1, hv2, hv3⟩ := VRL.get hv1 e _ hce
      have hcst : cst cs[e] = true := by rw [List.all_eq_true] at hc; exact hc _ (List.getElem_mem he)
      refine ⟨by rw [hce]; exact hcst, b', v1, by simp [Ren.see], ?_, ?_⟩
      · rw [hwb _ rfl]
        unfold World.cell?
        rw [hbo]
        simp [Ren.see]
        exact hv2
      · rw [hce]; exact VR.mono (see_le hr b' c') _ _ hv3
    · rw [if_neg hjn] at hj
      have hja : j ≠ a := by intro e; rw [if_pos e] at hj; cases hj
      rw [if_neg hja] at hj
      obtain ⟨k1, k2⟩ := hr.arg j k g m hj
      refine ⟨by simpa [Ren.see, hjn] using k1, ⟨by simpa [Ren.see, hjn] using k2.wd, fun e jj he hjj => ?_⟩⟩
      obtain ⟨m1, x, v', m2, m3, m4⟩ := k2.cell e jj he hjj
      refine ⟨m1, x, v', by simpa [Ren.see, hjn] using m2, ?_, VR.mono (see_le hr b' c') _ _ m4⟩
      by_cases hxb : x = b'
      · rw [show (ρ.see H.next b' c').off j = ρ.off j by simp [Ren.see, hjn], hwb _ hxb]; exact m3
      · rw [show (ρ.see H.next b' c').off j = ρ.off j by simp [Ren.see, hjn], ← m3]
        unfold World.cell?
        rw [hw' x hxb]
  · intro k hk hro
    refine hw' k fun e => ?_
    subst e
    have := hro a hab
    rw [hro0] at this; cases this
def opConv (E : Env) (S : St) : Option (TypeId × Nat × Nat × Nat) :=
  match S.top.k with
  | .ops all (o :: l) :: k =>
    bif guardB all S.top.t S.top.fn.ntmps o && dstOk S.top.fn.ntmps o.dst then
      (match o.op with
      | .convert s d x => match evx S.top.t x with
        | some (.slice (some ⟨a, 0, none⟩) n c) => bif Nat.beq s d then some (s, a, n, c) else none
        | _ => none
      | _ => none)
    else none
  | _ => none
def isBytes (E : Env) (s : TypeId) : Bool := match E.ty.get s with
  | some i => match i.desc with
    | .slice e => match E.ty.get e with
      | some q => match q.desc with | .int .u8 => true | _ => false
      | none => false
    | _ => false
  | none => false
theorem MWp.conv {Q : Value → Heap → Prop} (hE : E.Ok P) {S : St} {s a n c t : Nat} {cs : List Value} (h : opConv E S = some (s, a, n, c)) (hty : isBytes E s = true) (hl : S.H.lock = 0) (hb : S.H.next + 1 < big)
    (ho : S.H.get a = some (.cells cs t)) (hc : cs.all cst = true) (hn : n ≠ 0) (hnc : n ≤ cs.length) (hcc : c ≠ capU)
    (hs : MWp P (behind S (.slice (some ⟨S.H.next, 0, none⟩) n c) (convH S.H a cs)) Q) : MWp P S Q := by
  unfold opConv at h
  split at h
  · rename_i all o l k hk
    cases hcd : (guardB all S.top.t S.top.fn.ntmps o && dstOk S.top.fn.ntmps o.dst) with
    | false => rw [hcd] at h; cases h
    | true =>
      rw [hcd] at h; simp only [cond_true] at h
      simp only [Bool.and_eq_true] at hcd
      split at h
      · rename_i s1 d x hop
        split at h
        · rename_i a1 n1 c1 hev
          cases hsd : Nat.beq s1 d with
          | false => rw [hsd] at h; cases h
          | true =>
            rw [hsd] at h
            simp only [cond_true, Option.some.injEq, Prod.mk.injEq] at h
            obtain ⟨rfl, rfl, rfl, rfl⟩ := h
            have hsd' := Nat.eq_of_beq_eq_true hsd
            subst hsd'
            unfold isBytes at hty
            split at hty
            · rename_i i hi
              split at hty
              · rename_i e hid
                split at hty
                · rename_i q hq
                  split at hty
                  · rename_i hqd
                    intro ρ w g gs R hr hf hfs hR
                    unfold stateWp
                    rw [hf.k, hk]
                    show wpList P all _ (o :: l) g.a w
                    unfold wpList
                    rw [guardB_wanted P hf hcd.1, if_pos rfl]
                    left
                    have hgood := conv_good (P := P) hE hr hl hb hi hid hq hqd ho hc hn hnc hcc (evx_VR hf.t hev)
                    obtain ⟨ρ', v', w', h1, h2, h3, h4, h5, h6⟩ := hgood
                    unfold Oper.wp
                    have hrun : (execOp g.a.eval o).run P w = .ok (.value v') w' := by
                      rw [← h4]
                      unfold execOp
                      rw [hop]
                      exact run_v _
                    rw [hrun]
                    simp only [Oper.upon]
                    refine putFr_sound (S := S) (Q := Q) (v := .slice (some ⟨S.H.next, 0, none⟩) n1 c1) (H' := convH S.H a1 cs) (k := .ops all l :: k) (dst := o.dst) ?_ hf hfs h1 h2 h5 h6 h3 hR
                    unfold putFr
                    rw [hcd.2]
                    unfold behind at hs
                    rw [hk] at hs
                    exact hs
                  · cases hty
                · cases hty
              · cases hty
            · cases hty
        · cases h
      · cases h
  · cases h
end
end Go.Ly
namespace Go.Proofs.Ytnknopebjdgdjaa
open Go Go.Ly Go.RowKit
def alD : St := Ly.start Try.f68 [] H0
def alCs : List Value := [.int .u8 159, .int .u8 158, .int .u8 39, .int .u8 245, .int .u8 249, .int .u8 248, .int .u8 251, .int .u8 250, .int .u8 244, .int .u8 144]
def alH : Heap := H0.new (.cells alCs 5)
def alK : List KI := ((Ly.run env.bare 65 [(0, false), (0, false), (0, false), (0, false), (0, false), (0, false), (0, false), (0, false)] (Ly.start Try.f68 [.int .u8 0] H0)).st alD).top.k
def alV (a : Int) : List Value := slots 27 [(0, .int .u8 a), (22, .slice (some ⟨0, 0, none⟩) 10 10)]
theorem alJ (a : Int) : haltF [0, 22] alD (Ly.run env.bare 65 [(0, false), (0, false), (0, false), (0, false), (0, false), (0, false), (0, false), (0, false)] (Ly.start Try.f68 [.int .u8 a] H0)) = (true, [(a == 160, false), (a == 162, false), (a == 228, false), (a == 230, false), (a == 233, false), (a == 235, false), (a == 232, false), (a == 195, false)], true, (Try.f68, alK, none, 0), alV a, alH) := by kernel_rfl
def alS (a : Int) : St := behind (atSt Try.f68 alK none 0 (alV a) alH) (.slice (some ⟨1, 0, none⟩) 10 10) (convH alH 0 alCs)
theorem alC (a : Int) : opConv env (atSt Try.f68 alK none 0 (alV a) alH) = some (26, 0, 10, 10) := by kernel_rfl
theorem alG : env.bare.fn.get 68 = some Try.f68 := by kernel_rfl
theorem al0 (a : Int) : (Ly.run env.bare 600 [(0, true)] (Ly.start Try.f68 [.int .u8 a] H0)).out? = some ([(a == 160, true)], .tuple ⟨[.int .i64 1, .int .i64 1, .int .i64 19]⟩) := by kernel_rfl
theorem al1 (a : Int) : (Ly.run env.bare 600 [(0, false), (0, true)] (Ly.start Try.f68 [.int .u8 a] H0)).out? = some ([(a == 160, false), (a == 162, true)], .tuple ⟨[.int .i64 1, .int .i64 19, .int .i64 1]⟩) := by kernel_rfl
theorem al2 (a : Int) : (Ly.run env.bare 600 [(0, false), (0, false), (0, true)] (Ly.start Try.f68 [.int .u8 a] H0)).out? = some ([(a == 160, false), (a == 162, false), (a == 228, true)], .tuple ⟨[.int .i64 30, .int .i64 1, .int .i64 20]⟩) := by kernel_rfl
theorem al3 (a : Int) : (Ly.run env.bare 600 [(0, false), (0, false), (0, false), (0, true)] (Ly.start Try.f68 [.int .u8 a] H0)).out? = some ([(a == 160, false), (a == 162, false), (a == 228, false), (a == 230, true)], .tuple ⟨[.int .i64 31, .int .i64 20, .int .i64 1]⟩) := by kernel_rfl
theorem al4 (a : Int) : (Ly.run env.bare 600 [(0, false), (0, false), (0, false), (0, false), (0, true)] (Ly.start Try.f68 [.int .u8 a] H0)).out? = some ([(a == 160, false), (a == 162, false), (a == 228, false), (a == 230, false), (a == 233, true)], .tuple ⟨[.int .i64 32, .int .i64 20, .int .i64 0]⟩) := by kernel_rfl
theorem al5 (a : Int) : (Ly.run env.bare 600 [(0, false), (0, false), (0, false), (0, false), (0, false), (0, true)] (Ly.start Try.f68 [.int .u8 a] H0)).out? = some ([(a == 160, false), (a == 162, false), (a == 228, false), (a == 230, false), (a == 233, false), (a == 235, true)], .tuple ⟨[.int .i64 33, .int .i64 20, .int .i64 0]⟩) := by kernel_rfl
theorem al6 (a : Int) : (Ly.run env.bare 600 [(0, false), (0, false), (0, false), (0, false), (0, false), (0, false), (0, true)] (Ly.start Try.f68 [.int .u8 a] H0)).out? = some ([(a == 160, false), (a == 162, false), (a == 228, false), (a == 230, false), (a == 233, false), (a == 235, false), (a == 232, true)], .tuple ⟨[.int .i64 34, .int .i64 20, .int .i64 0]⟩) := by kernel_rfl
theorem al7 (a : Int) : (Ly.run env.bare 600 [(0, false), (0, false), (0, false), (0, false), (0, false), (0, false), (0, false), (0, true)] (Ly.start Try.f68 [.int .u8 a] H0)).out? = some ([(a == 160, false), (a == 162, false), (a == 228, false), (a == 230, false), (a == 233, false), (a == 235, false), (a == 232, false), (a == 195, true)], .tuple ⟨[.int .i64 35, .int .i64 0, .int .i64 0]⟩) := by kernel_rfl
theorem alt0 (a : Int) : (Ly.run env.bare 600 [(3, true)] (alS a)).out? = some ([(a == 159, true)], .tuple ⟨[.int .i64 20, .int .i64 0, .int .i64 0]⟩) := by kernel_rfl
theorem alt1 (a : Int) : (Ly.run env.bare 600 [(3, false), (3, true)] (alS a)).out? = some ([(a == 159, false), (a == 158, true)], .tuple ⟨[.int .i64 21, .int .i64 0, .int .i64 0]⟩) := by kernel_rfl
theorem alt2 (a : Int) : (Ly.run env.bare 600 [(3, false), (3, false), (3, true)] (alS a)).out? = some ([(a == 159, false), (a == 158, false), (a == 39, true)], .tuple ⟨[.int .i64 22, .int .i64 0, .int .i64 0]⟩) := by kernel_rfl
theorem alt3 (a : Int) : (Ly.run env.bare 600 [(3, false), (3, false), (3, false), (3, true)] (alS a)).out? = some ([(a == 159, false), (a == 158, false), (a == 39, false), (a == 245, true)], .tuple ⟨[.int .i64 23, .int .i64 0, .int .i64 0]⟩) := by kernel_rfl
theorem alt4 (a : Int) : (Ly.run env.bare 600 [(3, false), (3, false), (3, false), (3, false), (3, true)] (alS a)).out? = some ([(a == 159, false), (a == 158, false), (a == 39, false), (a == 245, false), (a == 249, true)], .tuple ⟨[.int .i64 24, .int .i64 0, .int .i64 0]⟩) := by kernel_rfl
theorem alt5 (a : Int) : (Ly.run env.bare 600 [(3, false), (3, false), (3, false), (3, false), (3, false), (3, true)] (alS a)).out? = some ([(a == 159, false), (a == 158, false), (a == 39, false), (a == 245, false), (a == 249, false), (a == 248, true)], .tuple ⟨[.int .i64 25, .int .i64 0, .int .i64 0]⟩) := by kernel_rfl
theorem alt6 (a : Int) : (Ly.run env.bare 600 [(3, false), (3, false), (3, false), (3, false), (3, false), (3, false), (3, true)] (alS a)).out? = some ([(a == 159, false), (a == 158, false), (a == 39, false), (a == 245, false), (a == 249, false), (a == 248, false), (a == 251, true)], .tuple ⟨[.int .i64 26, .int .i64 0, .int .i64 0]⟩) := by kernel_rfl
theorem alt7 (a : Int) : (Ly.run env.bare 600 [(3, false), (3, false), (3, false), (3, false), (3, false), (3, false), (3, false), (3, true)] (alS a)).out? = some ([(a == 159, false), (a == 158, false), (a == 39, false), (a == 245, false), (a == 249, false), (a == 248, false), (a == 251, false), (a == 250, true)], .tuple ⟨[.int .i64 27, .int .i64 0, .int .i64 0]⟩) := by kernel_rfl
theorem alt8 (a : Int) : (Ly.run env.bare 600 [(3, false), (3, false), (3, false), (3, false), (3, false), (3, false), (3, false), (3, false), (3, true)] (alS a)).out? = some ([(a == 159, false), (a == 158, false), (a == 39, false), (a == 245, false), (a == 249, false), (a == 248, false), (a == 251, false), (a == 250, false), (a == 244, true)], .tuple ⟨[.int .i64 28, .int .i64 0, .int .i64 0]⟩) := by kernel_rfl
theorem alt9 (a : Int) : (Ly.run env.bare 600 [(3, false), (3, false), (3, false), (3, false), (3, false), (3, false), (3, false), (3, false), (3, false), (3, true)] (alS a)).out? = some ([(a == 159, false), (a == 158, false), (a == 39, false), (a == 245, false), (a == 249, false), (a == 248, false), (a == 251, false), (a == 250, false), (a == 244, false), (a == 144, true)], .tuple ⟨[.int .i64 29, .int .i64 0, .int .i64 0]⟩) := by kernel_rfl
theorem alt10 (a : Int) : (Ly.run env.bare 600 [(3, false), (3, false), (3, false), (3, false), (3, false), (3, false), (3, false), (3, false), (3, false), (3, false)] (alS a)).out? = some ([(a == 159, false), (a == 158, false), (a == 39, false), (a == 245, false), (a == 249, false), (a == 248, false), (a == 251, false), (a == 250, false), (a == 244, false), (a == 144, false)], .tuple ⟨[.int .i64 19, .int .i64 0, .int .i64 0]⟩) := by kernel_rfl
def alT (a : Int) : Value := bif a == 160 then .tuple ⟨[.int .i64 1, .int .i64 1, .int .i64 19]⟩ else bif a == 162 then .tuple ⟨[.int .i64 1, .int .i64 19, .int .i64 1]⟩ else bif a == 228 then .tuple ⟨[.int .i64 30, .int .i64 1, .int .i64 20]⟩ else bif a == 230 then .tuple ⟨[.int .i64 31, .int .i64 20, .int .i64 1]⟩ else bif a == 233 then .tuple ⟨[.int .i64 32, .int .i64 20, .int .i64 0]⟩ else bif a == 235 then .tuple ⟨[.int .i64 33, .int .i64 20, .int .i64 0]⟩ else bif a == 232 then .tuple ⟨[.int .i64 34, .int .i64 20, .int .i64 0]⟩ else bif a == 195 then .tuple ⟨[.int .i64 35, .int .i64 0, .int .i64 0]⟩ else bif a == 159 then .tuple ⟨[.int .i64 20, .int .i64 0, .int .i64 0]⟩ else bif a == 158 then .tuple ⟨[.int .i64 21, .int .i64 0, .int .i64 0]⟩ else bif a == 39 then .tuple ⟨[.int .i64 22, .int .i64 0, .int .i64 0]⟩ else bif a == 245 then .tuple ⟨[.int .i64 23, .int .i64 0, .int .i64 0]⟩ else bif a == 249 then .tuple ⟨[.int .i64 24, .int .i64 0, .int .i64 0]⟩ else bif a == 248 then .tuple ⟨[.int .i64 25, .int .i64 0, .int .i64 0]⟩ else bif a == 251 then .tuple ⟨[.int .i64 26, .int .i64 0, .int .i64 0]⟩ else bif a == 250 then .tuple ⟨[.int .i64 27, .int .i64 0, .int .i64 0]⟩ else bif a == 244 then .tuple ⟨[.int .i64 28, .int .i64 0, .int .i64 0]⟩ else bif a == 144 then .tuple ⟨[.int .i64 29, .int .i64 0, .int .i64 0]⟩ else .tuple ⟨[.int .i64 19, .int .i64 0, .int .i64 0]⟩
theorem alT_plain (a : Int) : plain (alT a) = true := by
  unfold alT
  repeat' (first | rfl | (rw [Bool.cond_eq_ite]; split))
theorem al_call (a : Int) : LCalls Try.prog 68 [.int .u8 a] H0 (fun u _ => u = alT a) := by
  unfold alT
  cases h0 : (a == 160) with
  | true => simp only [cond_true]; exact LCalls_trust (Env.bare_ok envOk) 600 _ alG (by kernel_rfl) (al0 a) (by simp [trusted, h0])
  | false =>
  simp only [cond_false]
  cases h1 : (a == 162) with
  | true => simp only [cond_true]; exact LCalls_trust (Env.bare_ok envOk) 600 _ alG (by kernel_rfl) (al1 a) (by simp [trusted, h0, h1])
  | false =>
  simp only [cond_false]
  cases h2 : (a == 228) with
  | true => simp only [cond_true]; exact LCalls_trust (Env.bare_ok envOk) 600 _ alG (by kernel_rfl) (al2 a) (by simp [trusted, h0, h1, h2])
  | false =>
  simp only [cond_false]
  cases h3 : (a == 230) with
  | true => simp only [cond_true]; exact LCalls_trust (Env.bare_ok envOk) 600 _ alG (by kernel_rfl) (al3 a) (by simp [trusted, h0, h1, h2, h3])
  | false =>
  simp only [cond_false]
  cases h4 : (a == 233) with
  | true => simp only [cond_true]; exact LCalls_trust (Env.bare_ok envOk) 600 _ alG (by kernel_rfl) (al4 a) (by simp [trusted, h0, h1, h2, h3, h4])
  | false =>
  simp only [cond_false]
  cases h5 : (a == 235) with
  | true => simp only [cond_true]; exact LCalls_trust (Env.bare_ok envOk) 600 _ alG (by kernel_rfl) (al5 a) (by simp [trusted, h0, h1, h2, h3, h4, h5])
  | false =>
  simp only [cond_false]
  cases h6 : (a == 232) with
  | true => simp only [cond_true]; exact LCalls_trust (Env.bare_ok envOk) 600 _ alG (by kernel_rfl) (al6 a) (by simp [trusted, h0, h1, h2, h3, h4, h5, h6])
  | false =>
  simp only [cond_false]
  cases h7 : (a == 195) with
  | true => simp only [cond_true]; exact LCalls_trust (Env.bare_ok envOk) 600 _ alG (by kernel_rfl) (al7 a) (by simp [trusted, h0, h1, h2, h3, h4, h5, h6, h7])
  | false =>
  simp only [cond_false]
  refine LCalls_of (Env.bare_ok envOk) alG (by kernel_rfl) (MWp.halted (Env.bare_ok envOk) [0, 22] 65 _ (alJ a) (by simp [trusted, h0, h1, h2, h3, h4, h5, h6, h7]) ?_)
  refine MWp.conv (t := 5) (cs := alCs) envOk (alC a) (by kernel_rfl) rfl (by show 2 < 2147483000; omega) (by kernel_rfl) (by rfl) (by omega) (by show 10 ≤ 10; omega) (by unfold capU; omega) ?_
  show MWp Try.prog (alS a) _
  cases k0 : (a == 159) with
  | true => simp only [cond_true]; exact MWp.out (Env.bare_ok envOk) 600 _ (alt0 a) (by simp [trusted, k0]) (fun _ => rfl)
  | false =>
  simp only [cond_false]
  cases k1 : (a == 158) with
  | true => simp only [cond_true]; exact MWp.out (Env.bare_ok envOk) 600 _ (alt1 a) (by simp [trusted, k0, k1]) (fun _ => rfl)
  | false =>
  simp only [cond_false]
  cases k2 : (a == 39) with
  | true => simp only [cond_true]; exact MWp.out (Env.bare_ok envOk) 600 _ (alt2 a) (by simp [trusted, k0, k1, k2]) (fun _ => rfl)
  | false =>
  simp only [cond_false]
  cases k3 : (a == 245) with
  | true => simp only [cond_true]; exact MWp.out (Env.bare_ok envOk) 600 _ (alt3 a) (by simp [trusted, k0, k1, k2, k3]) (fun _ => rfl)
  | false =>
  simp only [cond_false]
  cases k4 : (a == 249) with
  | true => simp only [cond_true]; exact MWp.out (Env.bare_ok envOk) 600 _ (alt4 a) (by simp [trusted, k0, k1, k2, k3, k4]) (fun _ => rfl)
  | false =>
  simp only [cond_false]
  cases k5 : (a == 248) with
  | true => simp only [cond_true]; exact MWp.out (Env.bare_ok envOk) 600 _ (alt5 a) (by simp [trusted, k0, k1, k2, k3, k4, k5]) (fun _ => rfl)
  | false =>
  simp only [cond_false]
  cases k6 : (a == 251) with
  | true => simp only [cond_true]; exact MWp.out (Env.bare_ok envOk) 600 _ (alt6 a) (by simp [trusted, k0, k1, k2, k3, k4, k5, k6]) (fun _ => rfl)
  | false =>
  simp only [cond_false]
  cases k7 : (a == 250) with
  | true => simp only [cond_true]; exact MWp.out (Env.bare_ok envOk) 600 _ (alt7 a) (by simp [trusted, k0, k1, k2, k3, k4, k5, k6, k7]) (fun _ => rfl)
  | false =>
  simp only [cond_false]
  cases k8 : (a == 244) with
  | true => simp only [cond_true]; exact MWp.out (Env.bare_ok envOk) 600 _ (alt8 a) (by simp [trusted, k0, k1, k2, k3, k4, k5, k6, k7, k8]) (fun _ => rfl)
  | false =>
  simp only [cond_false]
  cases k9 : (a == 144) with
  | true => simp only [cond_true]; exact MWp.out (Env.bare_ok envOk) 600 _ (alt9 a) (by simp [trusted, k0, k1, k2, k3, k4, k5, k6, k7, k8, k9]) (fun _ => rfl)
  | false =>
  simp only [cond_false]
  exact MWp.out (Env.bare_ok envOk) 600 _ (alt10 a) (by simp [trusted, k0, k1, k2, k3, k4, k5, k6, k7, k8, k9]) (fun _ => rfl)
def aloneR (l : List Value) : Option (Bool × Value) := match l with
  | [.int .u8 a] => some (true, alT a)
  | _ => none
theorem alone_ans : Answers Try.prog 68 aloneR := by
  intro args g v h hg
  unfold aloneR at h
  split at h
  · rename_i a
    simp only [Option.some.injEq, Prod.mk.injEq] at h
    obtain ⟨rfl, rfl⟩ := h
    exact ⟨by simp [plain, plainL], alT_plain a, fun w => calls_plain (by simp [VRL, VR]) (fun ρ v' h => plain_eq (alT_plain a) h) (al_call a) w⟩
  · cases h
end Go.Proofs.Ytnknopebjdgdjaa
namespace Go.Ly
open Go.RowKit
def RO.fin? : RO → Option (List (Bool × Bool) × Value × Heap)
  | .ok t (.done v H) => some (t, v, H)
  | _ => none
theorem MWp.fin {P : Program} {C : Ctx} {Q : Value → Heap → Prop} (hC : C.Ok P) {S : St} {t : List (Bool × Bool)} {v : Value} {H : Heap} (n : Nat) (p : Path) (h : (run C n p S).fin? = some (t, v, H)) (htr : trusted t) (hq : Q v H) : MWp P S Q := by
  cases hr : run C n p S with
  | no => rw [hr] at h; cases h
  | ok t' l =>
    cases l with
    | halt S' => rw [hr] at h; cases h
    | done v' H' =>
      rw [hr] at h
      simp only [RO.fin?, Option.some.injEq, Prod.mk.injEq] at h
      obtain ⟨rfl, rfl, rfl⟩ := h
      exact run_sound hC n p S _ _ hr htr hq
end Go.Ly
namespace Go.Proofs.Ytnknopebjdgdjaa
open Go Go.Ly Go.RowKit
def ctx4a : Ctx := ctx4.with 68 aloneR
theorem ctx4a_ok : ctx4a.Ok Try.prog := ctx4_ok.with alone_ans
theorem gS17a : ctx4a.fn.get 17 = some Try.f17 := by kernel_rfl
theorem S_endsA {m m' : Mc} {g h g' h' : Nat → Int} {b0 k : Int} {p : Path} {t : List (Bool × Bool)} {nx : Nat} (hh : m.halt = false) (e0 : g (at4 m.ip 0) = b0)
    (hr : endsAt [0, 1, 2] (Ly.run ctx4a 3000 p (sS m g h b0 (g (at4 m.ip 1)) (g (at4 m.ip 2)) (g (at4 m.ip 3)))) = some (t, .int .i64 k, nx, hP m' g' h')) (ht : trusted t) (hn : nx ≤ 64) :
    Ly.Ends Try.prog 17 [ptr 0] (hP m g h) [0, 1, 2] (.int .i64 k) 64 (hP m' g' h') := by
  have e3 := MWp.ends ctx4a_ok 3000 p hr ht
  have e2 : Ly.Ends Try.prog 17 [ptr 0] (hP m g h) [0, 1, 2] (.int .i64 k) nx (hP m' g' h') := by
    refine LCalls_of ctx4a_ok gS17a (by kernel_rfl) (MWp.halted ctxSh_ok [0, 38] 600 pathS (juncS m g h) (trS hh) ?_)
    rw [e0]; exact e3
  exact e2.grow hn (by unfold big; omega)
theorem st244 (m : Mc) (g h : Nat → Int) (b1 b2 b3 : Int) : endsAt [0, 1, 2] (Ly.run ctx4a 3000 [] (sS m g h 244 b1 b2 b3)) = some ([], .int .i64 0, 16, hP { m with ip := IntKind.u16.wrap (m.ip + 1), halt := true } g h) := by kernel_rfl
theorem st15 (m : Mc) (g h : Nat → Int) (b1 b2 b3 : Int) : endsAt [0, 1, 2] (Ly.run ctx4a 3000 [] (sS m g h 15 b1 b2 b3)) = some ([], .int .i64 12, 10, hP m g h) := by kernel_rfl
theorem stH (m : Mc) (g h : Nat → Int) : endsAt [0, 1, 2] (Ly.run ctx4a 600 [(1, true)] (Ly.start Try.f17 [ptr 0] (mkH (hP m g h)))) = some ([(m.halt, true)], .int .i64 13, 3, hP m g h) := by kernel_rfl
theorem hlt_ends {m : Mc} {g h : Nat → Int} (hh : m.halt = false) (e0 : g (at4 m.ip 0) = 244) : Ly.Ends Try.prog 17 [ptr 0] (hP m g h) [0, 1, 2] (.int .i64 0) 64 (hP { m with ip := IntKind.u16.wrap (m.ip + 1), halt := true } g h) := S_endsA hh e0 (st244 m g h _ _ _) trivial (by omega)
theorem flt_ends {m : Mc} {g h : Nat → Int} (hh : m.halt = false) (e0 : g (at4 m.ip 0) = 15) : Ly.Ends Try.prog 17 [ptr 0] (hP m g h) [0, 1, 2] (.int .i64 12) 64 (hP m g h) := S_endsA hh e0 (st15 m g h _ _ _) trivial (by omega)
theorem hal_ends {m : Mc} {g h : Nat → Int} (hh : m.halt = true) : Ly.Ends Try.prog 17 [ptr 0] (hP m g h) [0, 1, 2] (.int .i64 13) 64 (hP m g h) :=
  Ly.Ends.grow (Ly.Ends.of_run ctx4a_ok 600 _ gS17a (by kernel_rfl) (stH m g h) ⟨hh, trivial⟩) (by omega) (by unfold big; omega)
def ctxM : Ctx := haltAt ctx4a 17
theorem ctxM_ok : ctxM.Ok Try.prog := haltAt_ok ctx4a_ok 17
def rd23 : St := Ly.start Try.f23 [] H0
def k23 : List KI := ((Ly.run ctxM 100 [] (Ly.start Try.f23 [ptr 0, .int .i64 1] H0)).st rd23).top.k
def v23 (y : Int) (p : Nat) : List Value := slots 22 [(0, ptr p), (1, .int .i64 y), (6, .int .i64 0), (13, ptr p)]
def s23 (y : Int) (p : Nat) (H : Heap) : St := atSt Try.f23 k23 none H.next (v23 y p) H
theorem run23 (p : Nat) (y : Int) (H : Heap) : haltF [0, 1, 6, 13] rd23 (Ly.run ctxM 100 [(1, true)] (Ly.start Try.f23 [ptr p, .int .i64 y] H)) = (true, [(decide (0 < y), true)], true, (Try.f23, k23, none, H.next), v23 y p, H) := by kernel_rfl
theorem call23 (y : Int) (p : Nat) (H : Heap) : callOf env (s23 y p H) = some (17, [ptr p]) := by kernel_rfl
def two0 (k : Int) : Value := .tuple ⟨[.int .i64 0, .int .i64 k]⟩
theorem fin23a (y : Int) (p : Nat) (H H' : Heap) : (Ly.run ctxM 100 [] (behind (s23 y p H) (.int .i64 12) H')).fin? = some ([], two0 12, H') := by kernel_rfl
theorem fin23b (y : Int) (p : Nat) (H H' : Heap) : (Ly.run ctxM 100 [] (behind (s23 y p H) (.int .i64 13) H')).fin? = some ([], two0 13, H') := by kernel_rfl
theorem run23n (p : Nat) (y : Int) (H : Heap) : (Ly.run ctxM 100 [(1, false)] (Ly.start Try.f23 [ptr p, .int .i64 y] H)).fin? = some ([(decide (0 < y), false)], two0 0, H) := by kernel_rfl
theorem gR23 : ctxM.fn.get 23 = some Try.f23 := by kernel_rfl
theorem run_none {p : Nat} {y : Int} {H : Heap} (hy : ¬ 0 < y) : LCalls Try.prog 23 [ptr p, .int .i64 y] H (fun u H' => u = two0 0 ∧ H' = H) :=
  LCalls_of ctxM_ok gR23 (by kernel_rfl) (MWp.fin ctxM_ok 100 _ (run23n p y H) ⟨decide_eq_false hy, trivial⟩ ⟨rfl, rfl⟩)
theorem run_stop {H : Heap} {p b d : Nat} {m : Mc} {g h : Nat → Int} {iv ov : Value} {y k : Int} (hy : 0 < y) (hk : k = 12 ∨ k = 13) (hp : Pm H p b d m g h iv ov) (hl : H.lock = 0) (hc : Ly.Clean H) (hb : H.next + 64 < big)
    (he : Ly.Ends Try.prog 17 [ptr 0] (hP m g h) [0, 1, 2] (.int .i64 k) 64 (hP m g h)) :
    LCalls Try.prog 23 [ptr p, .int .i64 y] H (fun u H' => u = two0 k ∧ Nx H H' [p, b, d] ∧ Pm H' p b d m g h iv ov) := by
  refine LCalls_of ctxM_ok gR23 (by kernel_rfl) (MWp.halted ctxM_ok [0, 1, 6, 13] 100 _ (run23 p y H) ⟨decide_eq_true hy, trivial⟩ ?_)
  refine MWp.call envOk (call23 y p H) (P_tok hp hl hc hb he) ?_
  rintro v H' ⟨rfl, hN, hM⟩
  rcases hk with rfl | rfl
  · exact MWp.fin ctxM_ok 100 [] (fin23a y p H H') trivial ⟨rfl, hN, hM⟩
  · exact MWp.fin ctxM_ok 100 [] (fin23b y p H H') trivial ⟨rfl, hN, hM⟩
end Go.Proofs.Ytnknopebjdgdjaa
namespace Go.Proofs.Ytnknopebjdgdjaa
open Go Go.Ly Go.RowKit
def lN (s : Sv) (x : Int) : List Value := [.int .u16 (IntKind.u16.wrap (s.ip + IntKind.u16.wrap 0)), .int .u8 x]
def rd8 : St := Ly.start Try.f8 [] H0
def k8 : List KI := ((Ly.run ctxN 9000 [] (Ly.start Try.f8 [svV sv0 nilS nilS nilS, .int .i64 1] (mkH [some (ints .u8 (fun _ => 0) 0), some (bytes2 (fun _ => 0) (fun _ => 0) 0), some (bytes2 (fun _ => 0) (fun _ => 0) 0)]))).st rd8).top.k
def v8 (y : Int) (p p2 r : Nat) : List Value := slots 140 [(1, .int .i64 y), (8, ptr p), (11, ptr p2), (12, ptr r), (85, ptr p)]
def tY (y : Int) : Bool × Bool := (decide (1000 < y), false)
def refC (s : Sv) (r : Nat) (iv : Value) : List Value := [sl (r - 3) 8, .bool s.fs, .bool s.fz, .bool s.fx, .bool s.fp, .bool s.fc, .int .u16 s.ip, .bool s.ie, .bool false, iv, .slice none 0 0, sl (r - 2) 65536, sl (r - 1) 65536]
def refR (s : Sv) : LO := .row [.int .u16 s.r0, .int .u16 s.r1, .int .u16 s.r2, .int .u16 s.r3, .int .u16 s.r4, .int .u16 s.r5, .int .u16 s.r6, .int .u16 s.r7] 22 1
end Go.Proofs.Ytnknopebjdgdjaa
namespace Go.Proofs.Ytnknopebjdgdjaa
open Go Go.Ly Go.RowKit
set_option maxRecDepth 100000 in
theorem n5_NNN (s : Sv) (n k l : Nat) (f fa fb fc fd : Nat → Int) (y : Int) : haltH [1, 8, 11, 12, 85] [19, 16, 18, 40, 37, 39, 46, 43, 44, 45] 47 rd8 (Ly.run ctxN 9000 [(18, false), (11, true), (25, true), (11, true), (25, true)] (Ly.start Try.f8 [svV s nilS nilS nilS, .int .i64 y] (mkH [some (ints .u8 f n), some (bytes2 fa fb k), some (bytes2 fc fd l)]))) =
  (true, [tY y, tOk (GA (lN s 244) 1) 1, tOk (GA (lN s 244) 1) 1, tOk (GA (lN s 15) 1) 1, tOk (GA (lN s 15) 1) 1], true, (Try.f8, k8, some 34, 3), v8 y 19 40 46, (true, true, true), [some (.cells (cellsPb 16 18 (mOf s) (.slice none 0 0) (.slice none 0 0)) 54), some (memL (gs (gm (GA (lN s 244) 1) 1))), some (memL (fun _ => 0)), some (.cells (cellsPb 37 39 (mOf s) (.slice none 0 0) (.slice none 0 0)) 54), some (memL (gs (gm (GA (lN s 15) 1) 1))), some (memL (fun _ => 0)), some (.cells (refC s 46 nilS) 44), some (refR s), some (memL (gm (GA (lN s 15) 1) 1)), some (memL (fun _ => 0))]) := by kernel_rfl
end Go.Proofs.Ytnknopebjdgdjaa
namespace Go.Proofs.Ytnknopebjdgdjaa
open Go Go.Ly Go.RowKit
def eq38H (n m : Nat) (f g : Nat → Int) : List (Option LO) := [some (ints .u8 f n), some (ints .u8 g m)]
def eq38D : St := Ly.start Try.f38 [] H0
def eq38K : List KI := ((Ly.run env.bare 22 [] (Ly.start Try.f38 [sl 0 0, sl 1 0] (mkH (eq38H 0 0 (fun _ => 0) (fun _ => 0))))).st eq38D).top.k
def eq38V (n m : Nat) (i : Int) : List Value := slots 26 [(0, sl 0 n), (1, sl 1 m), (5, .int .i64 i)]
theorem eq38get : env.bare.fn.get 38 = some Try.f38 := by kernel_rfl
theorem eq380 (n m : Nat) (f g : Nat → Int) : headAt [0, 1, 5] [0, 1] eq38D (Ly.run env.bare 22 [(0, false)] (Ly.start Try.f38 [sl 0 n, sl 1 m] (mkH (eq38H n m f g)))) = (true, [((n : Int) != (m : Int), false)], true, (Try.f38, eq38K, none, 2), eq38V n m 0, eq38H n m f g) := by kernel_rfl
theorem eq38N (n m : Nat) (f g : Nat → Int) : (Ly.run env.bare 200 [(0, true)] (Ly.start Try.f38 [sl 0 n, sl 1 m] (mkH (eq38H n m f g)))).end? = some ([((n : Int) != (m : Int), true)], .bool false, mkH (eq38H n m f g)) := by kernel_rfl
theorem eq38I (n m : Nat) (f g : Nat → Int) (i : Int) : headAt [0, 1, 5] [0, 1] eq38D (Ly.run env.bare 23 [(0, true), (0, true), (0, true), (0, true), (0, true), (0, false)] (mkSt Try.f38 eq38K none 2 (eq38V n m i) (eq38H n m f g))) = (true, [(decide (i < (n : Int)), true), (decide (0 ≤ i) && decide (i < (n : Int)), true), (Nat.blt (0 + i.toNat * 1) n, true), (decide (0 ≤ i) && decide (i < (m : Int)), true), (Nat.blt (0 + i.toNat * 1) m, true), (f (0 + i.toNat * 1) != g (0 + i.toNat * 1), false)], true, (Try.f38, eq38K, none, 2), eq38V n m (IntKind.i64.wrap (i + 1)), eq38H n m f g) := by kernel_rfl
theorem eq38T (n m : Nat) (f g : Nat → Int) (i : Int) : (Ly.run env.bare 200 [(0, false)] (mkSt Try.f38 eq38K none 2 (eq38V n m i) (eq38H n m f g))).out? = some ([(decide (i < (n : Int)), false)], .bool true) := by kernel_rfl
theorem eq38E (n m : Nat) (f g : Nat → Int) (i : Int) : (Ly.run env.bare 200 [(0, true), (0, true), (0, true), (0, true), (0, true), (0, true)] (mkSt Try.f38 eq38K none 2 (eq38V n m i) (eq38H n m f g))).out? = some ([(decide (i < (n : Int)), true), (decide (0 ≤ i) && decide (i < (n : Int)), true), (Nat.blt (0 + i.toNat * 1) n, true), (decide (0 ≤ i) && decide (i < (m : Int)), true), (Nat.blt (0 + i.toNat * 1) m, true), (f (0 + i.toNat * 1) != g (0 + i.toNat * 1), true)], .bool false) := by kernel_rfl
theorem eq38P (n m : Nat) (f g : Nat → Int) : ∀ o ∈ eq38H n m f g, ∀ x, o = some x → plainO x := by
  intro o ho x hx
  simp only [eq38H, List.mem_cons, List.not_mem_nil, or_false] at ho
  rcases ho with rfl | rfl <;> (simp only [Option.some.injEq] at hx; subst hx; exact plain_ints)
theorem eq38loop (n : Nat) (f g : Nat → Int) (hn : n ≤ 9223372036854775807) : ∀ (d : Nat) (i : Int), 0 ≤ i → i ≤ n → ((n : Int) - i).toNat = d → (∀ e : Nat, (e : Int) < i → f e = g e) →
    MWp Try.prog (mkSt Try.f38 eq38K none 2 (eq38V n n i) (eq38H n n f g)) (fun v _ => v = .bool (eqU n f g))
  | 0, i, h0, h1, hd, he => by
    have hi : i = n := by omega
    refine MWp.out (Env.bare_ok envOk) 200 _ (eq38T n n f g i) (by simp [trusted]; omega) ?_
    intro _; rw [eqU_true (fun e h => he e (by omega))]
  | d + 1, i, h0, h1, hd, he => by
    have hi : i < n := by omega
    have ht : 0 + i.toNat * 1 = i.toNat := by omega
    have hlt : Nat.blt i.toNat n = true := by rw [Nat.blt_eq]; omega
    by_cases hf : f i.toNat = g i.toNat
    · refine MWp.head (Env.bare_ok envOk) _ _ _ _ (eq38I n n f g i) (by rw [ht]; simp [trusted, hf, hlt, hi, h0]) (eq38P n n f g) ?_
      have hw : IntKind.i64.wrap (i + 1) = i + 1 := by rw [IntKind.wrap_i64]; omega
      rw [hw]
      refine eq38loop n f g hn d (i + 1) (by omega) (by omega) (by omega) (fun e h => ?_)
      by_cases h2 : (e : Int) = i
      · have : e = i.toNat := by omega
        rw [this]; exact hf
      · exact he e (by omega)
    · refine MWp.out (Env.bare_ok envOk) 200 _ (eq38E n n f g i) (by rw [ht]; simp [trusted, hf, hlt, hi, h0]) ?_
      intro _; rw [eqU_false (e := i.toNat) (by omega) hf]
theorem eq38SS (n m : Nat) (f g : Nat → Int) (hn : n ≤ 9223372036854775807) : LCalls Try.prog 38 [sl 0 n, sl 1 m] (mkH [some (ints .u8 f n), some (ints .u8 g m)]) (fun u _ => u = .bool (Nat.beq n m && eqU n f g)) := by
  refine LCalls_of (Env.bare_ok envOk) eq38get (by kernel_rfl) ?_
  by_cases h : n = m
  · subst h
    refine MWp.head (Env.bare_ok envOk) _ _ _ _ (eq380 n n f g) (by simp [trusted]) (eq38P n n f g) ?_
    refine (eq38loop n f g hn _ 0 (by omega) (by omega) rfl (fun e h => by omega)).mono ?_
    rintro v H rfl
    simp
  · refine MWp.done (Env.bare_ok envOk) 200 _ (eq38N n m f g) (by simp [trusted]; omega) ?_
    have : Nat.beq n m = false := by
      cases hb : Nat.beq n m with
      | false => rfl
      | true => exact absurd (Nat.eq_of_beq_eq_true hb) h
    rw [this]; rfl
theorem eq38a (m : Nat) (q : Nat → Int) (b : Bool) : (Ly.run env.bare 200 [(0, b)] (Ly.start Try.f38 [.slice none 0 0, sl 0 m] (mkH [some (ints .u8 q m)]))).out? = some ([((0 : Int) != (m : Int), b)], .bool (!b)) := by cases b <;> kernel_rfl
theorem eq38NS (m : Nat) (q : Nat → Int) : LCalls Try.prog 38 [.slice none 0 0, sl 0 m] (mkH [some (ints .u8 q m)]) (fun u _ => u = .bool (Nat.beq 0 m)) := by
  by_cases h : m = 0
  · subst h
    exact LCalls_trust (Env.bare_ok envOk) 200 _ eq38get (by kernel_rfl) (eq38a 0 q false) (by simp [trusted])
  · have hb : Nat.beq 0 m = false := by rcases m with _ | m; exact absurd rfl h; rfl
    rw [hb]
    exact LCalls_trust (Env.bare_ok envOk) 200 _ eq38get (by kernel_rfl) (eq38a m q true) (by simp [trusted]; omega)
theorem eq38b (n : Nat) (q : Nat → Int) : (Ly.run env.bare 200 [(0, true)] (Ly.start Try.f38 [sl 0 n, .slice none 0 0] (mkH [some (ints .u8 q n)]))).out? = some ([((n : Int) != 0, true)], .bool false) := by kernel_rfl
theorem eq38c (q : Nat → Int) : (Ly.run env.bare 200 [] (Ly.start Try.f38 [sl 0 0, .slice none 0 0] (mkH [some (ints .u8 q 0)]))).out? = some ([], .bool true) := by kernel_rfl
theorem eq38SN (n : Nat) (p : Nat → Int) : LCalls Try.prog 38 [sl 0 n, .slice none 0 0] (mkH [some (ints .u8 p n)]) (fun u _ => u = .bool (Nat.beq n 0)) := by
  by_cases h : n = 0
  · subst h
    exact LCalls_trust (Env.bare_ok envOk) 200 _ eq38get (by kernel_rfl) (eq38c p) trivial
  · have hb : Nat.beq n 0 = false := by rcases n with _ | n; exact absurd rfl h; rfl
    rw [hb]
    exact LCalls_trust (Env.bare_ok envOk) 200 _ eq38get (by kernel_rfl) (eq38b n p) (by simp [trusted]; omega)
theorem eq38NN : LCalls Try.prog 38 [.slice none 0 0, .slice none 0 0] (mkH []) (fun u _ => u = .bool true) :=
  LCalls_trust (v := .bool true) (Env.bare_ok envOk) 200 [] eq38get (by kernel_rfl) (t := []) (by kernel_rfl) trivial
theorem eq38con : ∀ args ρ args' w H, VRL ρ args args' → Rep ρ H w → ConGood Try.prog ρ 38 args' w (conEq .u8 H args) := conEq_good eq38SS eq38NS eq38SN eq38NN
end Go.Proofs.Ytnknopebjdgdjaa
namespace Go.Proofs.Ytnknopebjdgdjaa
open Go Go.Ly Go.RowKit
def ctxZ : Ctx := haltAt (ctxN.withC 38 (conEq .u8)) 23
theorem ctxZ_ok : ctxZ.Ok Try.prog := haltAt_ok (ctxN_ok.withC eq38con) 23
theorem call8a (y : Int) (p p2 r : Nat) (H : Heap) : callOf env (atSt Try.f8 k8 (some 34) 3 (v8 y p p2 r) H) = some (17, [ptr p]) := by kernel_rfl
def s8 (y : Int) (p p2 r : Nat) (H : Heap) : St := atSt Try.f8 k8 (some 34) 3 (v8 y p p2 r) H
def k8b : List KI := ((Ly.run ctxZ 60 [] (behind (s8 0 0 1 2 H0) (.int .i64 0) H0)).st rd8).top.k
def v8b (y : Int) (p p2 r : Nat) : List Value := slots 140 [(1, .int .i64 y), (8, ptr p), (11, ptr p2), (12, ptr r), (88, ptr p), (89, .int .i64 y)]
def s8b (y : Int) (p p2 r : Nat) (H : Heap) : St := atSt Try.f8 k8b (some 34) 3 (v8b y p p2 r) H
theorem run8a (y : Int) (p p2 r : Nat) (H H' : Heap) : haltF [1, 8, 11, 12, 88, 89] rd8 (Ly.run ctxZ 60 [] (behind (s8 y p p2 r H) (.int .i64 0) H')) = (true, [], true, (Try.f8, k8b, some 34, 3), v8b y p p2 r, H') := by kernel_rfl
theorem call8b (y : Int) (p p2 r : Nat) (H : Heap) : callOf env (s8b y p p2 r H) = some (23, [ptr p, .int .i64 y]) := by kernel_rfl
def k8c : List KI := ((Ly.run ctxZ 60 [] (behind (s8b 0 0 1 2 H0) (two0 0) H0)).st rd8).top.k
def v8c (y a : Int) (p2 r : Nat) : List Value := slots 140 [(1, .int .i64 y), (11, ptr p2), (12, ptr r), (14, .int .i64 0), (15, .int .i64 a), (94, ptr p2), (95, .int .i64 y)]
def s8c (y a : Int) (p2 r : Nat) (H : Heap) : St := atSt Try.f8 k8c (some 34) 3 (v8c y a p2 r) H
theorem run8b (y a : Int) (p p2 r : Nat) (H H' : Heap) : haltF [1, 11, 12, 14, 15, 94, 95] rd8 (Ly.run ctxZ 60 [] (behind (s8b y p p2 r H) (two0 a) H')) = (true, [], true, (Try.f8, k8c, some 34, 3), v8c y a p2 r, H') := by kernel_rfl
theorem call8c (y a : Int) (p2 r : Nat) (H : Heap) : callOf env (s8c y a p2 r H) = some (23, [ptr p2, .int .i64 y]) := by kernel_rfl
end Go.Proofs.Ytnknopebjdgdjaa
namespace Go.Proofs.Ytnknopebjdgdjaa
open Go Go.Ly Go.RowKit
end Go.Proofs.Ytnknopebjdgdjaa
namespace Go.Proofs.Ytnknopebjdgdjaa
open Go Go.Ly Go.RowKit
end Go.Proofs.Ytnknopebjdgdjaa
namespace Go.Proofs.Ytnknopebjdgdjaa
open Go Go.Ly Go.RowKit
end Go.Proofs.Ytnknopebjdgdjaa
namespace Go.Ly
open Go.RowKit
section
variable {P : Program} {Q : Value → Heap → Prop}
theorem MWp.few {S : St} {I : List Nat} {os : List LO} {n : Nat} (hl : S.H.lock = 0) (hn : S.H.next ≤ n) (hb : n < big) (hI : I.length = os.length) (hnd : I.Nodup) (hlt : ∀ b ∈ I, b < big)
    (h : ∀ (j b : Nat) (o : LO), I[j]? = some b → os[j]? = some o → ∃ x, S.H.get b = some x ∧ OW x o) (hs : MWp P { S with H := vH I (os.map some) n } Q) : MWp P S Q := by
  intro ρ w g gs R hr hf hfs hR
  obtain ⟨h1, h2⟩ := setZip_get I (os.map some) .nil (by simpa using hI) hlt hnd
  have hK : Rep ρ { m := setAll (I.zip (os.map some)) .nil, next := S.H.next } w := by
    refine Rep.weak (H := S.H) ⟨rfl, hl.symm, fun i o hi => ?_⟩ hr
    by_cases hm : i ∈ I
    · obtain ⟨j, hj⟩ := List.getElem?_of_mem hm
      have hjl : j < os.length := by
        have := (List.getElem?_eq_some_iff.1 hj).1; omega
      have ho : (os.map some)[j]? = some (some os[j]) := by rw [List.getElem?_map, List.getElem?_eq_getElem hjl]; rfl
      have := h1 j i _ hj ho
      have hi' : (setAll (I.zip (os.map some)) .nil).get i = some o := hi
      rw [this] at hi'
      simp only [Option.some.injEq] at hi'
      subst hi'
      exact h j i _ hj (List.getElem?_eq_getElem hjl)
    · have := h2 i hm
      have hi' : (setAll (I.zip (os.map some)) .nil).get i = some o := hi
      rw [this, Tr.get_nil] at hi'; cases hi'
  have hK2 : Rep ρ (vH I (os.map some) n) w := Rep.grow (H := { m := setAll (I.zip (os.map some)) .nil, next := S.H.next }) hn hb hK
  exact hs ρ w g gs R hK2 hf hfs hR
end
end Go.Ly
namespace Go.Proofs.Ytnknopebjdgdjaa
open Go Go.Ly Go.RowKit
end Go.Proofs.Ytnknopebjdgdjaa
namespace Go.Proofs.Ytnknopebjdgdjaa
open Go Go.Ly Go.RowKit
theorem run8n (y : Int) (p2 r : Nat) (H H' : Heap) : (Ly.run ctxZ 300 [(0, true)] (behind (s8c y 0 p2 r H) (two0 0) H')).out? = some ([(decide (y ≤ 0), true)], .bool true) := by kernel_rfl
theorem tail8 {p p2 r b d b2 d2 : Nat} {s : Sv} {y : Int} {H : Heap} {g h g2 h2 : Nat → Int} {iv iv2 ov ov2 : Value} (hnx : H.next ≤ 500) (hl : H.lock = 0) (hc : Ly.Clean H)
    (h1 : Pm H p b d (mOf s) g h iv ov) (h2' : Pm H p2 b2 d2 (mOf s) g2 h2 iv2 ov2) (hnd : [p, b, d, p2, b2, d2].Nodup) (e0 : g (at4 s.ip 0) = 244) (f0 : g2 (at4 s.ip 0) = 15)
    (hfin : 0 < y → ∀ H1 H' : Heap, H'.lock = 0 → H'.next ≤ H.next + 200 → Pm H' p2 b2 d2 (mOf s) g2 h2 iv2 ov2 → (∀ i, i < H.next → i ∉ [p, b, d, p2, b2, d2] → H'.get i = H.get i) →
      MWp Try.prog (behind (s8c y 13 p2 r H1) (two0 12) H') (fun u _ => u = .bool true)) :
    MWp Try.prog (s8 y p p2 r H) (fun u _ => u = .bool true) := by
  have hbig : big = 2147483000 := rfl
  have nds := hnd
  simp only [List.nodup_cons, List.mem_cons, List.not_mem_nil, or_false, not_or] at nds
  obtain ⟨⟨npb, npd, npp2, npb2, npd2⟩, ⟨nbd, nbp2, nbb2, nbd2⟩, ⟨ndp2, ndb2, ndd2⟩, ⟨npb2', npd2'⟩, nbd2', _⟩ := nds
  refine MWp.ltn (fun (hlt : ∀ i o, H.get i = some o → i < H.next) (_ : H.next < big) => ?_)
  have mp2 : p2 ∉ [p, b, d] := by simp [Ne.symm npp2, Ne.symm nbp2, Ne.symm ndp2]
  have mb2 : b2 ∉ [p, b, d] := by simp [Ne.symm npb2, Ne.symm nbb2, Ne.symm ndb2]
  have md2 : d2 ∉ [p, b, d] := by simp [Ne.symm npd2, Ne.symm nbd2, Ne.symm ndd2]
  have lp2 : p2 < H.next := hlt _ _ h2'.cells
  have lb2 : b2 < H.next := hlt _ _ h2'.code
  have ld2 : d2 < H.next := hlt _ _ h2'.data
  refine MWp.call envOk (call8a y p p2 r H) (P_tok h1 hl hc (by show H.next + 64 < big; omega) (hlt_ends (m := mOf s) rfl e0)) ?_
  rintro v H1 ⟨rfl, hN1, hM1⟩
  have hN1 : Nx H H1 [p, b, d] := hN1
  have hM2 : Pm H1 p2 b2 d2 (mOf s) g2 h2 iv2 ov2 := h2'.same fun i hi' => by
    simp only [List.mem_cons, List.not_mem_nil, or_false] at hi'
    rcases hi' with rfl | rfl | rfl
    · exact hN1.old _ lp2 mp2
    · exact hN1.old _ lb2 mb2
    · exact hN1.old _ ld2 md2
  have g1 : H1.next ≤ H.next + 64 := hN1.ge
  have g1' : H.next ≤ H1.next := hN1.le
  refine MWp.halted ctxZ_ok _ _ _ (run8a y p p2 r H H1) trivial ?_
  by_cases hy : 0 < y
  · refine MWp.call envOk (call8b y p p2 r H1) (run_stop (k := 13) hy (.inr rfl) hM1 hN1.lock hN1.clean (by show H1.next + 64 < big; omega) (hal_ends rfl)) ?_
    rintro v H2 ⟨rfl, hN2, hM1'⟩
    have hN2 : Nx H1 H2 [p, b, d] := hN2
    have g2' : H2.next ≤ H1.next + 64 := hN2.ge
    have g2'' : H1.next ≤ H2.next := hN2.le
    have hM2' : Pm H2 p2 b2 d2 (mOf s) g2 h2 iv2 ov2 := hM2.same fun i hi' => by
      simp only [List.mem_cons, List.not_mem_nil, or_false] at hi'
      rcases hi' with rfl | rfl | rfl
      · exact hN2.old _ (by show _ < H1.next; omega) mp2
      · exact hN2.old _ (by show _ < H1.next; omega) mb2
      · exact hN2.old _ (by show _ < H1.next; omega) md2
    refine MWp.halted ctxZ_ok _ _ _ (run8b y 13 p p2 r H1 H2) trivial ?_
    refine MWp.call envOk (call8c y 13 p2 r H2) (run_stop (k := 12) hy (.inl rfl) hM2' hN2.lock hN2.clean (by show H2.next + 64 < big; omega) (flt_ends rfl f0)) ?_
    rintro v H3 ⟨rfl, hN3, hM2''⟩
    have hN3 : Nx H2 H3 [p2, b2, d2] := hN3
    have g3' : H3.next ≤ H2.next + 64 := hN3.ge
    refine hfin hy H2 H3 hN3.lock (by omega) hM2'' fun i hi hO => ?_
    simp only [List.mem_cons, List.not_mem_nil, or_false, not_or] at hO
    obtain ⟨o1, o2, o3, o4, o5, o6⟩ := hO
    rw [hN3.old i (by show i < H2.next; omega) (by simp [o4, o5, o6]), hN2.old i (by show i < H1.next; omega) (by simp [o1, o2, o3]), hN1.old i hi (by simp [o1, o2, o3])]
  · refine MWp.call envOk (call8b y p p2 r H1) (Q' := fun u H' => u = two0 0 ∧ H' = H1) (run_none hy) ?_
    rintro v H2 ⟨rfl, h2⟩
    refine MWp.halted ctxZ_ok _ _ _ (run8b y 0 p p2 r H1 H2) trivial ?_
    refine MWp.call envOk (call8c y 0 p2 r H2) (Q' := fun u H' => u = two0 0 ∧ H' = H2) (run_none hy) ?_
    rintro v H3 ⟨rfl, h3⟩
    exact MWp.out ctxZ_ok 300 _ (run8n y p2 r H2 H3) ⟨decide_eq_true (by omega), trivial⟩ (fun _ => rfl)
end Go.Proofs.Ytnknopebjdgdjaa
namespace Go.Proofs.Ytnknopebjdgdjaa
open Go Go.Ly Go.RowKit
theorem tLi_ok {n : Nat} (h : n + 1 ≤ 300) : trusted [tLi n] := ⟨by show (decide (((n + 1 : Nat) : Int) ≤ 300) == true) = true; rw [decide_eq_true (by omega)]; rfl, trivial⟩
theorem tLc_ok {k : Nat} (h : k + 1 ≤ 600) : trusted [tLc k] := ⟨by show (decide (((k + 1 : Nat) : Int) ≤ 600) == true) = true; rw [decide_eq_true (by omega)]; rfl, trivial⟩
theorem tLd_ok {l : Nat} (h : l ≤ 300) : trusted [tLd l] := ⟨by show ((!(decide ((l : Int) ≤ 300))) == false) = true; rw [decide_eq_true (by omega)]; rfl, trivial⟩
theorem tMe_ok {n : Nat} (h : n + 1 ≤ 256) : trusted [tMe n] := ⟨by show (decide ((256 : Int) < ((n + 1 : Nat) : Int)) == false) = true; rw [decide_eq_false (by omega)]; rfl, trivial⟩
theorem tMx_ok {n : Nat} (h : n + 1 ≤ 256) : trusted [tMx n] := ⟨by show decide ((256 : Int) < ((n + 1 : Nat) : Int)) = false; exact decide_eq_false (by omega), trivial⟩
theorem tR2_ok {k : Nat} (h : k ≤ 1000) : trusted [tR2 k] := by
  refine ⟨?_, trivial⟩
  show (true && (Nat.ble (0 + (0 + (k + 1))) (k + 1) && ((Nat.beq 2 2 && (Nat.beq 78 78 && (Nat.beq (k + 1) (0 + (k + 1)) && true))) && (Nat.ble 1 (0 + (k + 1)) && Nat.ble (0 + (k + 1) + 1) 4294967296)))) = true
  have e1 : Nat.ble (k + 1) (k + 1) = true := by rw [Nat.ble_eq]; exact Nat.le_refl _
  have e2 : Nat.ble 1 (k + 1) = true := by rw [Nat.ble_eq]; omega
  have e3 : Nat.ble (k + 1 + 1) 4294967296 = true := by rw [Nat.ble_eq]; omega
  have e4 : Nat.beq (k + 1) (k + 1) = true := Nat.beq_refl _
  simp only [Nat.zero_add, e1, e2, e3, e4]; rfl
theorem gokD {fc fd : Nat → Int} {l : Nat} (h : ∀ e, e < l → B16 (fc e) ∧ B8 (fd e)) : Gok l (GD fc fd) := (Gok.bb h).shift
theorem tOd_ok {fc fd : Nat → Int} {l : Nat} (h : ∀ e, e < l → B16 (fc e) ∧ B8 (fd e)) (hl : l ≤ 1000) : trusted [tOd fc fd l] := by
  refine ⟨?_, trivial⟩
  show (Nat.ble (0 + l) l && (true && okM l (GD fc fd))) = true
  rw [(gokD h).ok hl, Nat.zero_add, Bool.and_eq_true, Nat.ble_eq]
  exact ⟨Nat.le_refl _, rfl⟩
theorem blt_ff (k : Nat) : Nat.blt k k = false := by
  cases h : Nat.blt k k with
  | false => rfl
  | true => rw [Nat.blt_eq] at h; omega
end Go.Proofs.Ytnknopebjdgdjaa
namespace Go.Proofs.Ytnknopebjdgdjaa
open Go Go.Ly Go.RowKit
theorem tLi_no {n : Nat} (h : ¬ n + 1 ≤ 300) : trusted [((tLi n).1, false)] := ⟨by show (decide (((n + 1 : Nat) : Int) ≤ 300) == true) = false; rw [decide_eq_false (by omega)]; rfl, trivial⟩
theorem tLc_no {k : Nat} (h : ¬ k + 1 ≤ 600) : trusted [((tLc k).1, false)] := ⟨by show (decide (((k + 1 : Nat) : Int) ≤ 600) == true) = false; rw [decide_eq_false (by omega)]; rfl, trivial⟩
theorem tLd_no {l : Nat} (h : ¬ l ≤ 300) : trusted [((tLd l).1, false)] := ⟨by show ((!(decide ((l : Int) ≤ 300))) == false) = false; rw [decide_eq_false (by omega)]; rfl, trivial⟩
theorem tMe_no {n : Nat} (h : ¬ n + 1 ≤ 256) : trusted [((tMe n).1, false)] := ⟨by show (decide ((256 : Int) < ((n + 1 : Nat) : Int)) == false) = false; rw [decide_eq_true (by omega)]; rfl, trivial⟩
end Go.Proofs.Ytnknopebjdgdjaa
namespace Go.Proofs.Ytnknopebjdgdjaa
open Go Go.Ly Go.RowKit
def tFl (s : Sv) : Bool × Bool := ((!(s.fs == s.fs && (s.fz == s.fz && (s.fx == s.fx && (s.fp == s.fp && (s.fc == s.fc && true)))))) == false, true)
def tNe (x : Int) : Bool × Bool := ((x != x) == false, true)
def tIe (b : Bool) : Bool × Bool := ((!(b == b)) == false, true)
def tLo (x : Int) : Bool × Bool := (IntKind.u8.wrap (x.fdiv 1) != IntKind.u8.wrap (bits BinOp.and IntKind.u16 x 255), false)
def tHi (x : Int) : Bool × Bool := (IntKind.u8.wrap (x.fdiv 256) != IntKind.u8.wrap (x.fdiv 256), false)
def tEq (F : Nat → Int) : Bool × Bool := ((Nat.beq 65536 65536 && eqU 65536 (fun e => F (0 + e)) (fun e => F (0 + e))) == true, true)
def tIg (n : Nat) (f : Nat → Int) : Bool × Bool := (Nat.ble (0 + (0 + (n + 1))) (n + 1) && (Nat.ble (0 + (n + 1)) (n + 1) && (Rw.ints .u8 (.gen (0 + (n + 1)) fun i j => .int .u8 (f (0 + (0 + i)))) && (Rw.ints .u8 (.gen (n + 1) fun i j => .int .u8 (f (0 + i))) && Nat.ble (0 + (n + 1)) 9223372036854775807))), true)
def tIq (n : Nat) (f : Nat → Int) : Bool × Bool := ((!(Nat.beq (0 + (n + 1)) (n + 1) && eqU (0 + (n + 1)) (fun e => f (0 + (0 + e))) (fun e => f (0 + e)))) == false, true)
def tRg (s : Sv) (F D : Nat → Int) : List (Bool × Bool) := [tNe s.r0, tLo s.r0, tNe s.r1, tLo s.r1, tNe s.r2, tLo s.r2, tNe s.r3, tLo s.r3, tNe s.r4, tHi s.r0, tNe s.r5, tHi s.r1, tNe s.r6, tHi s.r2, tNe s.r7, tHi s.r3, tEq F, tEq D]
theorem tFl_ok (s : Sv) : trusted [tFl s] := ⟨by simp [tFl], trivial⟩
theorem tNe_ok (x : Int) : trusted [tNe x] := ⟨by simp [tNe], trivial⟩
theorem tIe_ok (b : Bool) : trusted [tIe b] := ⟨by simp [tIe], trivial⟩
theorem tHi_ok (x : Int) : trusted [tHi x] := ⟨by simp [tHi], trivial⟩
theorem tLo_ok {x : Int} (h : B16 x) : trusted [tLo x] := by
  refine ⟨?_, trivial⟩
  obtain ⟨h0, h1⟩ := h
  have e1 : x.fdiv 1 = x := by rw [Int.fdiv_eq_ediv_of_nonneg _ (by omega)]; omega
  have e2 : IntKind.u8.wrap x = IntKind.u8.wrap (x % 256) := by rw [IntKind.wrap_u8', IntKind.wrap_u8']; omega
  show (IntKind.u8.wrap (x.fdiv 1) != IntKind.u8.wrap (bits BinOp.and IntKind.u16 x 255)) = false
  rw [e1, u16_and255 x h0 (by omega), e2]; simp
theorem tEq_ok (F : Nat → Int) : trusted [tEq F] := by
  refine ⟨?_, trivial⟩
  show ((Nat.beq 65536 65536 && eqU 65536 (fun e => F (0 + e)) (fun e => F (0 + e))) == true) = true
  rw [eqU_true (fun _ _ => rfl)]; rfl
theorem tIg_ok {n : Nat} {f : Nat → Int} (h : n ≤ 1000) : trusted [tIg n f] := by
  refine ⟨?_, trivial⟩
  simp only [tIg, Rw.ints, Bool.and_eq_true, Nat.ble_eq, List.all_eq_true, isK, kbeq]
  refine ⟨by omega, by omega, fun _ _ => trivial, fun _ _ => trivial, by omega⟩
theorem tIq_ok (n : Nat) (f : Nat → Int) : trusted [tIq n f] := by
  refine ⟨?_, trivial⟩
  show ((!(Nat.beq (0 + (n + 1)) (n + 1) && eqU (0 + (n + 1)) (fun e => f (0 + (0 + e))) (fun e => f (0 + e)))) == false) = true
  rw [eqU_true (fun e _ => by simp only [Nat.zero_add]), Nat.zero_add, Nat.beq_refl]; rfl
theorem tRg_ok {s : Sv} (hs : s.Ok) (F D : Nat → Int) : trusted (tRg s F D) := by
  obtain ⟨⟨h0, h1, h2, h3, h4, h5, h6, h7⟩, _⟩ := hs
  exact tr_cons (tNe_ok _) (tr_cons (tLo_ok h0) (tr_cons (tNe_ok _) (tr_cons (tLo_ok h1) (tr_cons (tNe_ok _) (tr_cons (tLo_ok h2) (tr_cons (tNe_ok _) (tr_cons (tLo_ok h3) (tr_cons (tNe_ok _) (tr_cons (tHi_ok _) (tr_cons (tNe_ok _) (tr_cons (tHi_ok _) (tr_cons (tNe_ok _) (tr_cons (tHi_ok _) (tr_cons (tNe_ok _) (tr_cons (tHi_ok _) (tr_cons (tEq_ok _) (tr_cons (tEq_ok _) trivial)))))))))))))))))
theorem tYf_ok {y : Int} (h : 0 < y) : trusted [(decide (y ≤ 0), false)] := ⟨decide_eq_false (by omega), trivial⟩
theorem tY_ok {y : Int} (h : ¬ 1000 < y) : trusted [tY y] := ⟨decide_eq_false h, trivial⟩
theorem tY_no {y : Int} (h : ¬ ¬ 1000 < y) : trusted [((tY y).1, true)] := ⟨decide_eq_true (by omega), trivial⟩
theorem tails_ok {s : Sv} (hs : s.Ok) {y : Int} (hy : 0 < y) (F D : Nat → Int) : trusted ((decide (y ≤ 0), false) :: tFl s :: tNe s.ip :: tIe s.ie :: tRg s F D) :=
  tr_cons (tYf_ok hy) (tr_cons (tFl_ok s) (tr_cons (tNe_ok _) (tr_cons (tIe_ok _) (tRg_ok hs F D))))
theorem tailsR_ok {s : Sv} (hs : s.Ok) {y : Int} (hy : 0 < y) {n : Nat} {f : Nat → Int} (hn : n ≤ 1000) (F D : Nat → Int) : trusted ((decide (y ≤ 0), false) :: tFl s :: tNe s.ip :: tIe s.ie :: tIg n f :: tIq n f :: tRg s F D) :=
  tr_cons (tYf_ok hy) (tr_cons (tFl_ok s) (tr_cons (tNe_ok _) (tr_cons (tIe_ok _) (tr_cons (tIg_ok hn) (tr_cons (tIq_ok n f) (tRg_ok hs F D))))))
theorem gN8 : ctxN.fn.get 8 = some Try.f8 := by kernel_rfl
theorem few_of {H : Heap} {I : List Nat} {os : List LO} (h : I.map H.get = os.map some) : ∀ (j b : Nat) (o : LO), I[j]? = some b → os[j]? = some o → ∃ x, H.get b = some x ∧ OW x o := by
  intro j b o hb ho
  have := congrArg (fun l => l[j]?) h
  simp only [List.getElem?_map, hb, ho, Option.map_some, Option.some.injEq] at this
  exact ⟨o, this, OW.refl o⟩
theorem bh8 (y a : Int) (p2 r : Nat) (H1 H2 K : Heap) : { behind (s8c y a p2 r H1) (two0 12) H2 with H := K } = behind (s8c y a p2 r H1) (two0 12) K := by kernel_rfl
theorem up1 (m : Nat → Int) (i : Nat) (v : Int) : upd m i v i = v := by unfold upd; simp [Nat.beq_refl]
theorem byN (s : Sv) (x : Int) : gm (GA (lN s x) 1) 1 (at4 s.ip 0) = x := up1 _ _ x
theorem gokN {s : Sv} {x : Int} (hx : B8 x) : Gok 1 (GA (lN s x) 1) := Gok.cons (wr16 _) hx Gok.nil
theorem gokNB {s : Sv} {x : Int} {fa fb : Nat → Int} {k : Nat} (hx : B8 x) (h : ∀ e, e < k + 1 → B16 (fa e) ∧ B8 (fb e)) : Gok (0 + (k + 1) + 1) (GB fa fb k (lN s x) 1) := by
  have h1 : Gok (0 + (k + 1)) (fun i j => bbG fa fb (0 + (0 + i)) j) := by
    rw [Nat.zero_add]; exact ((Gok.bb h).shift).shift
  exact (h1.join (Gok.cons (wr16 _) hx Gok.nil : Gok 1 (lstG 2 1 (lN s x)))).shift
theorem byNB (s : Sv) (x : Int) (fa fb : Nat → Int) (k : Nat) : gm (GB fa fb k (lN s x) 1) (0 + (k + 1) + 1) (at4 s.ip 0) = x := by
  have e1 : ∀ j, GB fa fb k (lN s x) 1 (0 + (k + 1)) j = lstG 2 1 (lN s x) 0 j := fun j => by
    simp only [GB, joinG, vif_eq, Nat.zero_add, blt_ff, Nat.sub_self]; rfl
  have e : gm (GB fa fb k (lN s x) 1) (0 + (k + 1) + 1) = upd (memF (atOf (GB fa fb k (lN s x) 1)) (byOf (GB fa fb k (lN s x) 1)) (0 + (k + 1))) (ix (intV (GB fa fb k (lN s x) 1 (0 + (k + 1)) 0))) (intV (GB fa fb k (lN s x) 1 (0 + (k + 1)) 1)) := rfl
  rw [e, e1, e1]
  exact up1 _ _ x
theorem b244 : B8 244 := by unfold B8; omega
theorem b15 : B8 15 := by unfold B8; omega
end Go.Proofs.Ytnknopebjdgdjaa
namespace Go.Proofs.Ytnknopebjdgdjaa
open Go Go.Ly Go.RowKit
set_option maxRecDepth 200000 in
theorem n8_NN (s : Sv) (n : Nat) (f F D : Nat → Int) (y : Int) (H1 : Heap) : (Ly.run ctxZ 3000 [(0, false), (25, true), (10, true), (10, true), (40, true), (22, false), (3, true), (22, false), (3, true), (22, false), (3, true), (22, false), (3, true), (27, false), (3, true), (27, false), (3, true), (27, false), (3, true), (27, false), (3, true), (11, true)] (behind (s8c y 13 40 46 H1) (two0 12) (vH [40, 37, 39, 46, 43, 44, 45] [some (.cells (cellsPb 37 39 (mOf s) (.slice none 0 0) (.slice none 0 0)) 54), some (memL F), some (memL D), some (.cells (refC s 46 nilS) 44), some (refR s), some (memL F), some (memL D)] 1000))).out? =
  some ((decide (y ≤ 0), false) :: tFl s :: tNe s.ip :: tIe s.ie :: tRg s F D, .bool true) := by kernel_rfl
end Go.Proofs.Ytnknopebjdgdjaa
namespace Go.Proofs.Ytnknopebjdgdjaa
open Go Go.Ly Go.RowKit
theorem x8_NNN0 (s : Sv) (n k l : Nat) (f fa fb fc fd : Nat → Int) (y : Int) : (Ly.run ctxN 9000 [(18, true)] (Ly.start Try.f8 [svV s nilS nilS nilS, .int .i64 y] (mkH [some (ints .u8 f n), some (bytes2 fa fb k), some (bytes2 fc fd l)]))).out? = some ([((tY y).1, true)], .bool true) := by kernel_rfl
theorem w8_NNN (s : Sv) (n k l : Nat) (f fa fb fc fd : Nat → Int) (y : Int) (hs : s.Ok) : LCalls Try.prog 8 [svV s nilS nilS nilS, .int .i64 y] (mkH [some (ints .u8 f n), some (bytes2 fa fb k), some (bytes2 fc fd l)]) (fun u _ => u = .bool true) := by
  by_cases h : ¬ 1000 < y
  rotate_left
  · exact LCalls_of ctxN_ok gN8 (by kernel_rfl) (MWp.out ctxN_ok 9000 _ (x8_NNN0 s n k l f fa fb fc fd y) (tr_cons (tY_no h) trivial) (fun _ => rfl))
  have hY := h
  clear h
  refine LCalls_of ctxN_ok gN8 (by kernel_rfl) (MWp.haltH ctxN_ok _ _ _ _ (n5_NNN s n k l f fa fb fc fd y) (tr_cons (tY_ok hY) (tr_cons (tOk_ok (gokN b244) (by omega)) (tr_cons (tOk_ok (gokN b244) (by omega)) (tr_cons (tOk_ok (gokN b15) (by omega)) (tr_cons (tOk_ok (gokN b15) (by omega)) trivial))))) ?_)
  intro H hnx hl hc hos
  simp only [List.map_cons, List.map_nil, List.cons.injEq, and_true] at hos
  obtain ⟨h1, h2, h3, h4, h5, h6, h7, h8, h9, h10⟩ := hos
  rw [gs_eq] at h2 h5
  refine tail8 (by omega) hl hc ⟨h1, h2, h3, rfl, rfl, by decide⟩ ⟨h4, h5, h6, rfl, rfl, by decide⟩ (by decide) (byN s 244) (byN s 15) fun hy H1 H' hl' hn' hP hold => ?_
  have hHb : (behind (s8c y 13 40 46 H1) (two0 12) H').H = H' := behind_H (E := env) (by rw [call8c]; rfl)
  refine MWp.few (I := [40, 37, 39, 46, 43, 44, 45]) (os := [(.cells (cellsPb 37 39 (mOf s) (.slice none 0 0) (.slice none 0 0)) 54), (memL (gm (GA (lN s 15) 1) 1)), (memL (fun _ => 0)), (.cells (refC s 46 nilS) 44), (refR s), (memL (gm (GA (lN s 15) 1) 1)), (memL (fun _ => 0))]) (n := 1000) (by rw [hHb]; exact hl') (by rw [hHb]; omega) (by unfold big; omega) rfl (by decide) (by decide) (few_of ?_) ?_
  · rw [hHb]
    simp only [List.map_cons, List.map_nil, List.cons.injEq, and_true]
    exact ⟨hP.cells, hP.code, hP.data, (hold 46 (by omega) (by decide)).trans h7, (hold 43 (by omega) (by decide)).trans h8, (hold 44 (by omega) (by decide)).trans h9, (hold 45 (by omega) (by decide)).trans h10⟩
  · rw [bh8]
    exact MWp.out ctxZ_ok 3000 _ (n8_NN s n f (gm (GA (lN s 15) 1) 1) (fun _ => 0) y H1) (tails_ok hs hy _ _) (fun _ => rfl)
end Go.Proofs.Ytnknopebjdgdjaa
namespace Go.Proofs.Ytnknopebjdgdjaa
open Go Go.Ly Go.RowKit
set_option maxRecDepth 100000 in
theorem n5_NNS (s : Sv) (n k l : Nat) (f fa fb fc fd : Nat → Int) (y : Int) : haltH [1, 8, 11, 12, 85] [19, 16, 18, 40, 37, 39, 46, 43, 44, 45] 47 rd8 (Ly.run ctxN 9000 [(10, true), (7, false), (11, true), (0, true), (24, true), (0, true), (10, true), (0, true), (24, true), (0, true)] (Ly.start Try.f8 [svV s nilS nilS (sls 2 l), .int .i64 y] (mkH [some (ints .u8 f n), some (bytes2 fa fb k), some (bytes2 fc fd l)]))) =
  (true, [tLd l, tY y, tOk (GA (lN s 244) 1) 1, tOd fc fd l, tOk (GA (lN s 244) 1) 1, tOd fc fd l, tOk (GA (lN s 15) 1) 1, tOd fc fd l, tOk (GA (lN s 15) 1) 1, tOd fc fd l], true, (Try.f8, k8, some 34, 3), v8 y 19 40 46, (true, true, true), [some (.cells (cellsPb 16 18 (mOf s) (.slice none 0 0) (.slice none 0 0)) 54), some (memL (gs (gm (GA (lN s 244) 1) 1))), some (memL (gs (gm (GD fc fd) l))), some (.cells (cellsPb 37 39 (mOf s) (.slice none 0 0) (.slice none 0 0)) 54), some (memL (gs (gm (GA (lN s 15) 1) 1))), some (memL (gs (gm (GD fc fd) l))), some (.cells (refC s 46 nilS) 44), some (refR s), some (memL (gm (GA (lN s 15) 1) 1)), some (memL (gm (GD fc fd) l))]) := by kernel_rfl
end Go.Proofs.Ytnknopebjdgdjaa
namespace Go.Proofs.Ytnknopebjdgdjaa
open Go Go.Ly Go.RowKit
theorem x8_NNS0 (s : Sv) (n k l : Nat) (f fa fb fc fd : Nat → Int) (y : Int) : (Ly.run ctxN 9000 [(10, false)] (Ly.start Try.f8 [svV s nilS nilS (sls 2 l), .int .i64 y] (mkH [some (ints .u8 f n), some (bytes2 fa fb k), some (bytes2 fc fd l)]))).out? = some ([((tLd l).1, false)], .bool true) := by kernel_rfl
theorem x8_NNS1 (s : Sv) (n k l : Nat) (f fa fb fc fd : Nat → Int) (y : Int) : (Ly.run ctxN 9000 [(10, true), (7, true)] (Ly.start Try.f8 [svV s nilS nilS (sls 2 l), .int .i64 y] (mkH [some (ints .u8 f n), some (bytes2 fa fb k), some (bytes2 fc fd l)]))).out? = some ([tLd l, ((tY y).1, true)], .bool true) := by kernel_rfl
theorem w8_NNS (s : Sv) (n k l : Nat) (f fa fb fc fd : Nat → Int) (y : Int) (hs : s.Ok) (hd : ∀ e, e < l → B16 (fc e) ∧ B8 (fd e)) : LCalls Try.prog 8 [svV s nilS nilS (sls 2 l), .int .i64 y] (mkH [some (ints .u8 f n), some (bytes2 fa fb k), some (bytes2 fc fd l)]) (fun u _ => u = .bool true) := by
  by_cases h : l ≤ 300
  rotate_left
  · exact LCalls_of ctxN_ok gN8 (by kernel_rfl) (MWp.out ctxN_ok 9000 _ (x8_NNS0 s n k l f fa fb fc fd y) (tr_cons (tLd_no h) trivial) (fun _ => rfl))
  have hLd := h
  clear h
  by_cases h : ¬ 1000 < y
  rotate_left
  · exact LCalls_of ctxN_ok gN8 (by kernel_rfl) (MWp.out ctxN_ok 9000 _ (x8_NNS1 s n k l f fa fb fc fd y) (tr_cons (tLd_ok hLd) (tr_cons (tY_no h) trivial)) (fun _ => rfl))
  have hY := h
  clear h
  refine LCalls_of ctxN_ok gN8 (by kernel_rfl) (MWp.haltH ctxN_ok _ _ _ _ (n5_NNS s n k l f fa fb fc fd y) (tr_cons (tLd_ok hLd) (tr_cons (tY_ok hY) (tr_cons (tOk_ok (gokN b244) (by omega)) (tr_cons (tOd_ok hd (by omega)) (tr_cons (tOk_ok (gokN b244) (by omega)) (tr_cons (tOd_ok hd (by omega)) (tr_cons (tOk_ok (gokN b15) (by omega)) (tr_cons (tOd_ok hd (by omega)) (tr_cons (tOk_ok (gokN b15) (by omega)) (tr_cons (tOd_ok hd (by omega)) trivial)))))))))) ?_)
  intro H hnx hl hc hos
  simp only [List.map_cons, List.map_nil, List.cons.injEq, and_true] at hos
  obtain ⟨h1, h2, h3, h4, h5, h6, h7, h8, h9, h10⟩ := hos
  rw [gs_eq] at h2 h5
  rw [gs_eq] at h3 h6
  refine tail8 (by omega) hl hc ⟨h1, h2, h3, rfl, rfl, by decide⟩ ⟨h4, h5, h6, rfl, rfl, by decide⟩ (by decide) (byN s 244) (byN s 15) fun hy H1 H' hl' hn' hP hold => ?_
  have hHb : (behind (s8c y 13 40 46 H1) (two0 12) H').H = H' := behind_H (E := env) (by rw [call8c]; rfl)
  refine MWp.few (I := [40, 37, 39, 46, 43, 44, 45]) (os := [(.cells (cellsPb 37 39 (mOf s) (.slice none 0 0) (.slice none 0 0)) 54), (memL (gm (GA (lN s 15) 1) 1)), (memL (gm (GD fc fd) l)), (.cells (refC s 46 nilS) 44), (refR s), (memL (gm (GA (lN s 15) 1) 1)), (memL (gm (GD fc fd) l))]) (n := 1000) (by rw [hHb]; exact hl') (by rw [hHb]; omega) (by unfold big; omega) rfl (by decide) (by decide) (few_of ?_) ?_
  · rw [hHb]
    simp only [List.map_cons, List.map_nil, List.cons.injEq, and_true]
    exact ⟨hP.cells, hP.code, hP.data, (hold 46 (by omega) (by decide)).trans h7, (hold 43 (by omega) (by decide)).trans h8, (hold 44 (by omega) (by decide)).trans h9, (hold 45 (by omega) (by decide)).trans h10⟩
  · rw [bh8]
    exact MWp.out ctxZ_ok 3000 _ (n8_NN s n f (gm (GA (lN s 15) 1) 1) (gm (GD fc fd) l) y H1) (tails_ok hs hy _ _) (fun _ => rfl)
end Go.Proofs.Ytnknopebjdgdjaa
namespace Go.Proofs.Ytnknopebjdgdjaa
open Go Go.Ly Go.RowKit
set_option maxRecDepth 100000 in
theorem n5_NEN (s : Sv) (n k l : Nat) (f fa fb fc fd : Nat → Int) (y : Int) : haltH [1, 8, 11, 12, 85] [19, 16, 18, 40, 37, 39, 46, 43, 44, 45] 47 rd8 (Ly.run ctxN 9000 [(18, false), (11, true), (25, true), (11, true), (25, true)] (Ly.start Try.f8 [svV s nilS (sls 1 0) nilS, .int .i64 y] (mkH [some (ints .u8 f n), some (bytes2 fa fb 0), some (bytes2 fc fd l)]))) =
  (true, [tY y, tOk (GA (lN s 244) 1) 1, tOk (GA (lN s 244) 1) 1, tOk (GA (lN s 15) 1) 1, tOk (GA (lN s 15) 1) 1], true, (Try.f8, k8, some 34, 3), v8 y 19 40 46, (true, true, true), [some (.cells (cellsPb 16 18 (mOf s) (.slice none 0 0) (.slice none 0 0)) 54), some (memL (gs (gm (GA (lN s 244) 1) 1))), some (memL (fun _ => 0)), some (.cells (cellsPb 37 39 (mOf s) (.slice none 0 0) (.slice none 0 0)) 54), some (memL (gs (gm (GA (lN s 15) 1) 1))), some (memL (fun _ => 0)), some (.cells (refC s 46 nilS) 44), some (refR s), some (memL (gm (GA (lN s 15) 1) 1)), some (memL (fun _ => 0))]) := by kernel_rfl
end Go.Proofs.Ytnknopebjdgdjaa
namespace Go.Proofs.Ytnknopebjdgdjaa
open Go Go.Ly Go.RowKit
theorem x8_NEN0 (s : Sv) (n k l : Nat) (f fa fb fc fd : Nat → Int) (y : Int) : (Ly.run ctxN 9000 [(18, true)] (Ly.start Try.f8 [svV s nilS (sls 1 0) nilS, .int .i64 y] (mkH [some (ints .u8 f n), some (bytes2 fa fb 0), some (bytes2 fc fd l)]))).out? = some ([((tY y).1, true)], .bool true) := by kernel_rfl
theorem w8_NEN (s : Sv) (n k l : Nat) (f fa fb fc fd : Nat → Int) (y : Int) (hs : s.Ok) : LCalls Try.prog 8 [svV s nilS (sls 1 0) nilS, .int .i64 y] (mkH [some (ints .u8 f n), some (bytes2 fa fb 0), some (bytes2 fc fd l)]) (fun u _ => u = .bool true) := by
  by_cases h : ¬ 1000 < y
  rotate_left
  · exact LCalls_of ctxN_ok gN8 (by kernel_rfl) (MWp.out ctxN_ok 9000 _ (x8_NEN0 s n k l f fa fb fc fd y) (tr_cons (tY_no h) trivial) (fun _ => rfl))
  have hY := h
  clear h
  refine LCalls_of ctxN_ok gN8 (by kernel_rfl) (MWp.haltH ctxN_ok _ _ _ _ (n5_NEN s n k l f fa fb fc fd y) (tr_cons (tY_ok hY) (tr_cons (tOk_ok (gokN b244) (by omega)) (tr_cons (tOk_ok (gokN b244) (by omega)) (tr_cons (tOk_ok (gokN b15) (by omega)) (tr_cons (tOk_ok (gokN b15) (by omega)) trivial))))) ?_)
  intro H hnx hl hc hos
  simp only [List.map_cons, List.map_nil, List.cons.injEq, and_true] at hos
  obtain ⟨h1, h2, h3, h4, h5, h6, h7, h8, h9, h10⟩ := hos
  rw [gs_eq] at h2 h5
  refine tail8 (by omega) hl hc ⟨h1, h2, h3, rfl, rfl, by decide⟩ ⟨h4, h5, h6, rfl, rfl, by decide⟩ (by decide) (byN s 244) (byN s 15) fun hy H1 H' hl' hn' hP hold => ?_
  have hHb : (behind (s8c y 13 40 46 H1) (two0 12) H').H = H' := behind_H (E := env) (by rw [call8c]; rfl)
  refine MWp.few (I := [40, 37, 39, 46, 43, 44, 45]) (os := [(.cells (cellsPb 37 39 (mOf s) (.slice none 0 0) (.slice none 0 0)) 54), (memL (gm (GA (lN s 15) 1) 1)), (memL (fun _ => 0)), (.cells (refC s 46 nilS) 44), (refR s), (memL (gm (GA (lN s 15) 1) 1)), (memL (fun _ => 0))]) (n := 1000) (by rw [hHb]; exact hl') (by rw [hHb]; omega) (by unfold big; omega) rfl (by decide) (by decide) (few_of ?_) ?_
  · rw [hHb]
    simp only [List.map_cons, List.map_nil, List.cons.injEq, and_true]
    exact ⟨hP.cells, hP.code, hP.data, (hold 46 (by omega) (by decide)).trans h7, (hold 43 (by omega) (by decide)).trans h8, (hold 44 (by omega) (by decide)).trans h9, (hold 45 (by omega) (by decide)).trans h10⟩
  · rw [bh8]
    exact MWp.out ctxZ_ok 3000 _ (n8_NN s n f (gm (GA (lN s 15) 1) 1) (fun _ => 0) y H1) (tails_ok hs hy _ _) (fun _ => rfl)
end Go.Proofs.Ytnknopebjdgdjaa
namespace Go.Proofs.Ytnknopebjdgdjaa
open Go Go.Ly Go.RowKit
set_option maxRecDepth 100000 in
theorem n5_NES (s : Sv) (n k l : Nat) (f fa fb fc fd : Nat → Int) (y : Int) : haltH [1, 8, 11, 12, 85] [19, 16, 18, 40, 37, 39, 46, 43, 44, 45] 47 rd8 (Ly.run ctxN 9000 [(10, true), (7, false), (11, true), (0, true), (24, true), (0, true), (10, true), (0, true), (24, true), (0, true)] (Ly.start Try.f8 [svV s nilS (sls 1 0) (sls 2 l), .int .i64 y] (mkH [some (ints .u8 f n), some (bytes2 fa fb 0), some (bytes2 fc fd l)]))) =
  (true, [tLd l, tY y, tOk (GA (lN s 244) 1) 1, tOd fc fd l, tOk (GA (lN s 244) 1) 1, tOd fc fd l, tOk (GA (lN s 15) 1) 1, tOd fc fd l, tOk (GA (lN s 15) 1) 1, tOd fc fd l], true, (Try.f8, k8, some 34, 3), v8 y 19 40 46, (true, true, true), [some (.cells (cellsPb 16 18 (mOf s) (.slice none 0 0) (.slice none 0 0)) 54), some (memL (gs (gm (GA (lN s 244) 1) 1))), some (memL (gs (gm (GD fc fd) l))), some (.cells (cellsPb 37 39 (mOf s) (.slice none 0 0) (.slice none 0 0)) 54), some (memL (gs (gm (GA (lN s 15) 1) 1))), some (memL (gs (gm (GD fc fd) l))), some (.cells (refC s 46 nilS) 44), some (refR s), some (memL (gm (GA (lN s 15) 1) 1)), some (memL (gm (GD fc fd) l))]) := by kernel_rfl
end Go.Proofs.Ytnknopebjdgdjaa
namespace Go.Proofs.Ytnknopebjdgdjaa
open Go Go.Ly Go.RowKit
theorem x8_NES0 (s : Sv) (n k l : Nat) (f fa fb fc fd : Nat → Int) (y : Int) : (Ly.run ctxN 9000 [(10, false)] (Ly.start Try.f8 [svV s nilS (sls 1 0) (sls 2 l), .int .i64 y] (mkH [some (ints .u8 f n), some (bytes2 fa fb 0), some (bytes2 fc fd l)]))).out? = some ([((tLd l).1, false)], .bool true) := by kernel_rfl
theorem x8_NES1 (s : Sv) (n k l : Nat) (f fa fb fc fd : Nat → Int) (y : Int) : (Ly.run ctxN 9000 [(10, true), (7, true)] (Ly.start Try.f8 [svV s nilS (sls 1 0) (sls 2 l), .int .i64 y] (mkH [some (ints .u8 f n), some (bytes2 fa fb 0), some (bytes2 fc fd l)]))).out? = some ([tLd l, ((tY y).1, true)], .bool true) := by kernel_rfl
theorem w8_NES (s : Sv) (n k l : Nat) (f fa fb fc fd : Nat → Int) (y : Int) (hs : s.Ok) (hd : ∀ e, e < l → B16 (fc e) ∧ B8 (fd e)) : LCalls Try.prog 8 [svV s nilS (sls 1 0) (sls 2 l), .int .i64 y] (mkH [some (ints .u8 f n), some (bytes2 fa fb 0), some (bytes2 fc fd l)]) (fun u _ => u = .bool true) := by
  by_cases h : l ≤ 300
  rotate_left
  · exact LCalls_of ctxN_ok gN8 (by kernel_rfl) (MWp.out ctxN_ok 9000 _ (x8_NES0 s n k l f fa fb fc fd y) (tr_cons (tLd_no h) trivial) (fun _ => rfl))
  have hLd := h
  clear h
  by_cases h : ¬ 1000 < y
  rotate_left
  · exact LCalls_of ctxN_ok gN8 (by kernel_rfl) (MWp.out ctxN_ok 9000 _ (x8_NES1 s n k l f fa fb fc fd y) (tr_cons (tLd_ok hLd) (tr_cons (tY_no h) trivial)) (fun _ => rfl))
  have hY := h
  clear h
  refine LCalls_of ctxN_ok gN8 (by kernel_rfl) (MWp.haltH ctxN_ok _ _ _ _ (n5_NES s n k l f fa fb fc fd y) (tr_cons (tLd_ok hLd) (tr_cons (tY_ok hY) (tr_cons (tOk_ok (gokN b244) (by omega)) (tr_cons (tOd_ok hd (by omega)) (tr_cons (tOk_ok (gokN b244) (by omega)) (tr_cons (tOd_ok hd (by omega)) (tr_cons (tOk_ok (gokN b15) (by omega)) (tr_cons (tOd_ok hd (by omega)) (tr_cons (tOk_ok (gokN b15) (by omega)) (tr_cons (tOd_ok hd (by omega)) trivial)))))))))) ?_)
  intro H hnx hl hc hos
  simp only [List.map_cons, List.map_nil, List.cons.injEq, and_true] at hos
  obtain ⟨h1, h2, h3, h4, h5, h6, h7, h8, h9, h10⟩ := hos
  rw [gs_eq] at h2 h5
  rw [gs_eq] at h3 h6
  refine tail8 (by omega) hl hc ⟨h1, h2, h3, rfl, rfl, by decide⟩ ⟨h4, h5, h6, rfl, rfl, by decide⟩ (by decide) (byN s 244) (byN s 15) fun hy H1 H' hl' hn' hP hold => ?_
  have hHb : (behind (s8c y 13 40 46 H1) (two0 12) H').H = H' := behind_H (E := env) (by rw [call8c]; rfl)
  refine MWp.few (I := [40, 37, 39, 46, 43, 44, 45]) (os := [(.cells (cellsPb 37 39 (mOf s) (.slice none 0 0) (.slice none 0 0)) 54), (memL (gm (GA (lN s 15) 1) 1)), (memL (gm (GD fc fd) l)), (.cells (refC s 46 nilS) 44), (refR s), (memL (gm (GA (lN s 15) 1) 1)), (memL (gm (GD fc fd) l))]) (n := 1000) (by rw [hHb]; exact hl') (by rw [hHb]; omega) (by unfold big; omega) rfl (by decide) (by decide) (few_of ?_) ?_
  · rw [hHb]
    simp only [List.map_cons, List.map_nil, List.cons.injEq, and_true]
    exact ⟨hP.cells, hP.code, hP.data, (hold 46 (by omega) (by decide)).trans h7, (hold 43 (by omega) (by decide)).trans h8, (hold 44 (by omega) (by decide)).trans h9, (hold 45 (by omega) (by decide)).trans h10⟩
  · rw [bh8]
    exact MWp.out ctxZ_ok 3000 _ (n8_NN s n f (gm (GA (lN s 15) 1) 1) (gm (GD fc fd) l) y H1) (tails_ok hs hy _ _) (fun _ => rfl)
end Go.Proofs.Ytnknopebjdgdjaa
end
