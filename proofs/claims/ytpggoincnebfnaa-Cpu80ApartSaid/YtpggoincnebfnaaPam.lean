/- Part 13 of the texts that the law needs, laid together. By program (pack.py). -/
import Derived.Test.YtpggoincnebfnaaPah
import Derived.Test.YtpggoincnebfnaaPal
import Derived.KernelRfl
set_option linter.unusedVariables false
set_option linter.unusedSimpArgs false
noncomputable section
namespace Go.Proofs.Ytpggoincnebfnaa
open Go Go.Ly Go.RowKit
def ctxI : Ctx := haltAt ctxH 26
theorem ctxI_ok : ctxI.Ok Try.prog := haltAt_ok ctxH_ok 26
def ctxJ : Ctx := ctxO.withC 26 (conEq .u8)
theorem ctxJ_ok : ctxJ.Ok Try.prog := ctxO_ok.withC eq26con
section
variable (a b bb bs : Nat) (st c k : Int) (iv sv : Value) (H H1 : Heap)
def vB9 : List Value := slots 188 [(1, .int .i64 st), (2, ptr 2), (6, sl 6 65536), (7, iv), (9, ptr a), (11, ptr b), (13, .int .i64 c), (14, .int .i64 k), (88, sl 4 65536), (89, sl 6 65536)]
def vC9 : List Value := slots 188 [(1, .int .i64 st), (2, ptr 2), (6, sl 6 65536), (7, iv), (9, ptr a), (11, ptr b), (13, .int .i64 c), (14, .int .i64 k), (92, .bool false), (93, iv), (94, .pointer (some ⟨2, 16, none⟩))]
def vD9 : List Value := slots 188 [(1, .int .i64 st), (6, sl 6 65536), (9, ptr a), (11, ptr b), (13, .int .i64 c), (14, .int .i64 k), (99, .bool false), (102, .pointer (some ⟨b, 19, none⟩))]
def vE9 (bb : Nat) : List Value := slots 188 [(1, .int .i64 st), (9, ptr a), (11, ptr b), (13, .int .i64 c), (14, .int .i64 k), (99, .bool false), (103, sl bb 65536), (104, sl 6 65536)]
def vF9 : List Value := slots 188 [(1, .int .i64 st), (9, ptr a), (11, ptr b), (13, .int .i64 c), (14, .int .i64 k), (109, ptr b), (110, .int .i64 st)]
def vG9 : List Value := slots 188 [(9, ptr a), (11, ptr b), (13, .int .i64 c), (14, .int .i64 k), (15, .int .i64 c), (16, .int .i64 k)]
def kB9 : List KI := ((Ly.run ctxI 60 [] (behind (atSt Try.f9 k9 (some 18) 2 (v9 0 0 0 nilV) H0) (cntV 0 0) H0)).st rd9).top.k
def kC9 : List KI := ((Ly.run ctxI 4 [] (behind (atSt Try.f9 kB9 (some 18) 2 (vB9 0 0 0 0 0 nilV) H0) (.bool true) H0)).st rd9).top.k
def kD9 : List KI := ((Ly.run ctxI 6 [] (behind (behind (atSt Try.f9 kC9 (some 18) 2 (vC9 0 0 0 0 0 nilV) H0) nilV H0) (.bool true) H0)).st rd9).top.k
def kE9 : List KI := ((Ly.run ctxI 60 [] (behind (atSt Try.f9 kD9 (some 18) 2 (vD9 0 0 0 0 0) H0) (sl 0 65536) H0)).st rd9).top.k
def kF9 : List KI := ((Ly.run ctxH 60 [] (behind (atSt Try.f9 kE9 (some 18) 2 (vE9 0 0 0 0 0 0) H0) (.bool true) H0)).st rd9).top.k
def kG9 : List KI := ((Ly.run ctxH 7 [] (behind (atSt Try.f9 kF9 (some 18) 2 (vF9 0 0 0 0 0) H0) (cntV 0 0) H0)).st rd9).top.k
theorem call9a : callOf env (atSt Try.f9 k9 (some 18) 2 (v9 a b st iv) H) = some (16, [ptr a, .int .i64 st]) := by kernel_rfl
theorem run9a : haltF [1, 2, 6, 7, 9, 11, 13, 14, 88, 89] rd9 (Ly.run ctxI 60 [] (behind (atSt Try.f9 k9 (some 18) 2 (v9 a b st iv) H) (cntV c k) H1)) = (true, [], true, (Try.f9, kB9, some 18, 2), vB9 a b st c k iv, H1) := by kernel_rfl
theorem call9b : callOf env (atSt Try.f9 kB9 (some 18) 2 (vB9 a b st c k iv) H) = some (26, [sl 4 65536, sl 6 65536]) := by kernel_rfl
theorem run9b : haltF [1, 2, 6, 7, 9, 11, 13, 14, 92, 93, 94] rd9 (Ly.run ctxI 4 [] (behind (atSt Try.f9 kB9 (some 18) 2 (vB9 a b st c k iv) H) (.bool true) H1)) = (true, [], true, (Try.f9, kC9, some 18, 2), vC9 a b st c k iv, H1) := by kernel_rfl
theorem val9c : opVal env (atSt Try.f9 kC9 (some 18) 2 (vC9 a b st c k iv) H) = (match evLoad env H 26 (.pointer (some ⟨2, 16, none⟩)) with | .val v => some v | _ => none) := by kernel_rfl
theorem call9c : callOf env (behind (atSt Try.f9 kC9 (some 18) 2 (vC9 a b st c k iv) H) sv H) = some (26, [iv, sv]) := by kernel_rfl
theorem run9d : haltF [1, 6, 9, 11, 13, 14, 99, 102] rd9 (Ly.run ctxI 6 [] (behind (behind (atSt Try.f9 kC9 (some 18) 2 (vC9 a b st c k iv) H) sv H) (.bool true) H1)) = (true, [], true, (Try.f9, kD9, some 18, 2), vD9 a b st c k, H1) := by kernel_rfl
theorem val9d : opVal env (atSt Try.f9 kD9 (some 18) 2 (vD9 a b st c k) H) = (match evLoad env H 26 (.pointer (some ⟨b, 19, none⟩)) with | .val v => some v | _ => none) := by kernel_rfl
theorem run9e : haltF [1, 9, 11, 13, 14, 99, 103, 104] rd9 (Ly.run ctxI 60 [] (behind (atSt Try.f9 kD9 (some 18) 2 (vD9 a b st c k) H) (sl bb 65536) H)) = (true, [], true, (Try.f9, kE9, some 18, 2), vE9 a b st c k bb, H) := by kernel_rfl
theorem call9e : callOf env (atSt Try.f9 kE9 (some 18) 2 (vE9 a b st c k bb) H) = some (26, [sl bb 65536, sl 6 65536]) := by kernel_rfl
theorem run9f : haltF [1, 9, 11, 13, 14, 109, 110] rd9 (Ly.run ctxH 60 [] (behind (atSt Try.f9 kE9 (some 18) 2 (vE9 a b st c k bb) H) (.bool true) H1)) = (true, [], true, (Try.f9, kF9, some 18, 2), vF9 a b st c k, H1) := by kernel_rfl
theorem call9f : callOf env (atSt Try.f9 kF9 (some 18) 2 (vF9 a b st c k) H) = some (16, [ptr b, .int .i64 st]) := by kernel_rfl
theorem run9g : haltF [9, 11, 13, 14, 15, 16] rd9 (Ly.run ctxH 7 [] (behind (atSt Try.f9 kF9 (some 18) 2 (vF9 a b st c k) H) (cntV c k) H1)) = (true, [], true, (Try.f9, kG9, some 18, 2), vG9 a b c k, H1) := by kernel_rfl
end
def os9 (m : Mc) (g : Nat → Int) : List (Option LO) := [none, none, some (.cells (cellsPb 3 0 m anyV anyV) 60), some (memL g), some (.cells (cellsPb 5 0 m anyV anyV) 60), some (memL g)]
def gS (g : Nat → Int) : Nat → Int := (Rw.gen 65536 fun i _ => .int .u8 (g (0 + i))).at
def rE (m : Mc) : Bool := (m.r0 == m.r0 && (m.r1 == m.r1 && (m.r2 == m.r2 && (m.r3 == m.r3 && (m.r4 == m.r4 && (m.r5 == m.r5 && (((0 : Int) == 0) && (m.r7 == m.r7 && true))))))))
theorem fin9 (c k : Int) (m : Mc) (g : Nat → Int) : (Ly.run ctxJ 300 [(0, true), (3, true), (11, true), (11, true), (11, true), (11, true), (10, true)] (mkSt Try.f9 kG9 (some 18) 2 (vG9 2 4 c k) (os9 m g))).out? = some ([((c == c) == true, true), ((k == k) == true, true), (rE m == true, true), ((m.fs == m.fs && (m.fz == m.fz && (m.fx == m.fx && (m.fp == m.fp && (m.fc == m.fc && true))))) == true, true), ((m.sp == m.sp) == true, true), ((m.pc == m.pc) == true, true), ((Nat.beq 65536 65536 && eqU 65536 (gS g) (gS g)) == true, true)], .bool true) := by kernel_rfl
theorem eqU_self (n : Nat) (g : Nat → Int) : eqU n g g = true := eqU_true fun _ _ => rfl
theorem fin9_ok (c k : Int) (m : Mc) (g : Nat → Int) : MWp Try.prog (mkSt Try.f9 kG9 (some 18) 2 (vG9 2 4 c k) (os9 m g)) (fun u _ => u = .bool true) :=
  MWp.out ctxJ_ok 300 _ (fin9 c k m g) (by simp [rE, eqU_self]) (fun _ => rfl)
def IsB (H : Heap) (x : Value) (n : Nat) (f : Nat → Int) : Prop := ∃ gd u, srcR H 1 x = some (gd, u) ∧ gd = true ∧ u.ints .u8 = true ∧ u.n = n ∧ ∀ e, e < n → u.at e = f e
theorem isB_row {H : Heap} {i c n N' : Nat} {f : Nat → Int} {o : LO} (h : H.get i = some o) (ho : o.row? = some (1, fun e _ => .int .u8 (f e), N')) (hn : n ≤ N') : IsB H (.slice (some ⟨i, 0, none⟩) n c) n f := by
  refine ⟨Nat.ble (0 + n) N', .gen n (fun i j => .int .u8 (f (0 + i))), ?_, ?_, ?_, rfl, fun e _ => ?_⟩
  · unfold srcR; simp only [h, ho]; rfl
  · rw [Nat.zero_add, Nat.ble_eq]; exact hn
  · show ((List.range n).all fun e => isK .u8 (.int .u8 (f (0 + e)))) = true
    rw [List.all_eq_true]; intro e _; rfl
  · show intV (.int .u8 (f (0 + e))) = f e
    rw [Nat.zero_add]; rfl
theorem isB_nil (H : Heap) (f : Nat → Int) : IsB H nilS 0 f := ⟨true, .lst 0 [], rfl, rfl, rfl, rfl, fun e he => by omega⟩
theorem isB_emp {H : Heap} {i c : Nat} {t : TypeId} {f : Nat → Int} (h : H.get i = some (.cells [] t)) : IsB H (.slice (some ⟨i, 0, none⟩) 0 c) 0 f := by
  refine ⟨true, .lst 0 [], ?_, rfl, rfl, rfl, fun e he => by omega⟩
  unfold srcR; simp only [h]; rfl
theorem LCalls_con {f : FuncId} {args : List Value} {H : Heap} {v : Value} (h : ∀ ρ args' w, VRL ρ args args' → Rep ρ H w → ConGood Try.prog ρ f args' w (.val v)) : LCalls Try.prog f args H (fun u K => u = v ∧ K = H) := by
  intro ρ args' w ha hr
  obtain ⟨v', hv, hc⟩ := h ρ args' w ha hr
  refine hc.mono ?_
  rintro e w' ⟨rfl, hb⟩
  exact ⟨ρ, v, v', H, rfl, ⟨rfl, rfl⟩, Ren.le_refl _, Fresh.refl _ _, hv, hr.below hb, Below.toKeep hb⟩
theorem bytes_calls {H : Heap} {x y : Value} {n : Nat} {f g : Nat → Int} (hx : IsB H x n f) (hy : IsB H y n g) (he : ∀ e, e < n → f e = g e) (hn : n ≤ 9223372036854775807) : LCalls Try.prog 26 [x, y] H (fun u K => u = .bool true ∧ K = H) := by
  obtain ⟨g1, u, h1, rfl, i1, n1, a1⟩ := hx
  obtain ⟨g2, v, h2, rfl, i2, n2, a2⟩ := hy
  refine LCalls_con fun ρ args' w ha hr => ?_
  have key := eq26con [x, y] ρ args' w H ha hr
  unfold conEq at key
  simp only [h1, h2] at key
  have key := key.1 (by rw [i1, i2, n1]; simp; exact hn)
  have e : (Nat.beq u.n v.n && eqU u.n u.at v.at) = true := by
    rw [n1, n2, Nat.beq_refl, Bool.true_and]
    exact eqU_true fun e h => by rw [a1 e h, a2 e h]; exact he e h
  rw [e] at key; exact key
def _root_.Go.Value.isSlice : Value → Bool
  | .slice _ _ _ => true
  | _ => false
theorem load_in {H : Heap} {p : Nat} {s : Sv} {i m : Value} (h : H.get p = some (.cells (sCells s i m) 29)) (hi : i.isSlice = true) : evLoad env H 26 (.pointer (some ⟨p, 16, none⟩)) = .val i := by
  unfold evLoad
  simp only [h]
  cases i <;> first | kernel_rfl | cases hi
theorem load_mem {H : Heap} {p b rg : Nat} {m : Mc} {iv ov : Value} (h : H.get p = some (.cells (cellsPb b rg m iv ov) 60)) : evLoad env H 26 (.pointer (some ⟨p, 19, none⟩)) = .val (sl b 65536) := by
  unfold evLoad
  simp only [h]
  kernel_rfl
theorem vals9 (a ba b bb : Nat) (c k : Int) : renL (sg [0, 1, a, ba, b, bb]) (vG9 2 4 c k) = vG9 a b c k := by kernel_rfl
theorem sit9 (c k : Int) (m : Mc) (g : Nat → Int) : sitB Try.f9 2 (vG9 2 4 c k) (os9 m g) = true := by kernel_rfl
theorem plain_os9 {m : Mc} {g : Nat → Int} : ∀ o ∈ os9 m g, ∀ x, o = some x → plainO x := by
  intro o ho x hx
  simp only [os9, List.mem_cons, List.not_mem_nil, or_false] at ho
  rcases ho with rfl | rfl | rfl | rfl | rfl | rfl <;> first | (simp only [Option.some.injEq] at hx; subst hx; first | exact plain_mem g | exact trivial) | cases hx
theorem behH9 (a b : Nat) (st c k : Int) (iv sv : Value) (H : Heap) : (behind (atSt Try.f9 kC9 (some 18) 2 (vC9 a b st c k iv) H) sv H).H = H := by kernel_rfl
theorem PM.self {H : Heap} {p : Nat} {s : Js} {O V : List Nat} (h : PM H p s O V) : p ∈ V := by
  obtain ⟨b, rg, iv, ov, VI, VO, h, rfl, rfl⟩ := h
  simp
theorem tail9 {H : Heap} {a b : Nat} {s : Js} {O V O2 V2 B : List Nat} {iv sv mv : Value} {ss : Sv} {n : Nat} {f f' : Nat → Int} {st : Int} (hl : H.lock = 0) (hc : Ly.Clean H) (hP : PM H a s O V) (hP2 : PM H b s O2 V2) (hap : Apart V V2)
    (h2 : H.get 2 = some (.cells (sCells ss sv mv) 29)) (h4 : H.get 4 = some (memL s.g)) (h6 : H.get 6 = some (memL s.g)) (hsv : sv.isSlice = true) (hiv : ∀ K : Heap, (∀ i ∈ B, K.get i = H.get i) → IsB K iv n f ∧ IsB K sv n f') (hff : ∀ e, e < n → f e = f' e) (hn : n ≤ 1000) (hBl : ∀ i ∈ B, i < H.next)
    (hV : ∀ i ∈ [0, 1, 2, 4, 6] ++ B, i ∉ V ∧ i ∉ V2) (h0 : ∀ g, H.get 0 ≠ some (memL g) ∧ H.get 1 ≠ some (memL g)) (h01 : 1 < H.next) (hs : s.Ok) (hq : s.q = 0) (hN : s.N ≤ 1000) (hnx : H.next ≤ 1000) (hst : st ≤ 100) :
    MWp Try.prog (atSt Try.f9 k9 (some 18) 2 (v9 a b st iv) H) (fun u _ => u = .bool true) := by
  have hbig : big = 2147483000 := rfl
  refine MWp.ltn fun hlt0 _ => ?_
  have hlt : ∀ i o, H.get i = some o → i < H.next := hlt0
  obtain ⟨s', c, k, hs', hq', hN', hR, _⟩ := run_any st (by omega) s hs (by omega)
  refine MWp.call envOk (call9a a b st iv H) (hR H a O V hP hl hc (by show H.next + _ < big; omega)) ?_
  rintro v H1 ⟨rfl, hN1, O1, V1, hM1, hO1, hV1⟩
  have old1 : ∀ i, i < H.next → i ∉ V → H1.get i = H.get i := fun i hi h => hN1.old i hi (fun hO => h (hP.sub i hO))
  have hm : ∀ i ∈ [0, 1, 2, 4, 6] ++ B, i < H.next → H1.get i = H.get i := fun i hi hlt => old1 i hlt (hV i hi).1
  have l2 := hlt _ _ h2; have l4 := hlt _ _ h4; have l6 := hlt _ _ h6
  have e2 := hm 2 (by simp) l2; have e4 := hm 4 (by simp) l4; have e6 := hm 6 (by simp) l6
  rw [h2] at e2; rw [h4] at e4; rw [h6] at e6
  refine MWp.halted ctxI_ok _ _ _ (run9a a b st c k iv H H1) trivial ?_
  refine MWp.call envOk (call9b a b st c k iv H1) (bytes_calls (isB_row e4 rfl (Nat.le_refl _)) (isB_row e6 rfl (Nat.le_refl _)) (fun _ _ => rfl) (by omega)) ?_
  rintro v K ⟨rfl, hK⟩
  rw [hK]; clear hK K
  refine MWp.halted ctxI_ok _ _ _ (run9b a b st c k iv H1 H1) trivial ?_
  refine MWp.val envOk (v := sv) (by rw [val9c, load_in e2 hsv]) ?_
  show MWp Try.prog (behind (atSt Try.f9 kC9 (some 18) 2 (vC9 a b st c k iv) H1) sv H1) _
  obtain ⟨b1, b2⟩ := hiv H1 fun i hi => hm i (by simp [hi]) (hBl i hi)
  have hH : (behind (atSt Try.f9 kC9 (some 18) 2 (vC9 a b st c k iv) H1) sv H1).H = H1 := behH9 a b st c k iv sv H1
  refine MWp.call envOk (call9c a b st c k iv sv H1) (by rw [hH]; exact bytes_calls b1 b2 hff (by omega)) ?_
  rintro v K ⟨rfl, hK⟩
  rw [hK]; clear hK K
  refine MWp.halted ctxI_ok _ _ _ (run9d a b st c k iv sv H1 H1) trivial ?_
  have hPb : PM H1 b s O2 V2 := hP2.same fun i hi => old1 i (hP2.lt hlt i hi) (fun h => hap i h hi)
  obtain ⟨bb, rg, iv2, ov2, VI2, VO2, hPm, rfl, rfl⟩ := id hPb
  refine MWp.val envOk (v := sl bb 65536) (by rw [val9d, load_mem hPm.cells]) ?_
  show MWp Try.prog (behind (atSt Try.f9 kD9 (some 18) 2 (vD9 a b st c k) H1) (sl bb 65536) H1) _
  refine MWp.halted ctxI_ok _ _ _ (run9e a b bb st c k H1) trivial ?_
  refine MWp.call envOk (call9e a b bb st c k H1) (bytes_calls (isB_row hPm.mem rfl (Nat.le_refl _)) (isB_row e6 rfl (Nat.le_refl _)) (fun _ _ => rfl) (by omega)) ?_
  rintro v K ⟨rfl, hK⟩
  rw [hK]; clear hK K
  refine MWp.halted ctxH_ok _ _ _ (run9f a b bb st c k H1 H1) trivial ?_
  refine MWp.ltn fun hlt10 _ => ?_
  have hlt1 : ∀ i o, H1.get i = some o → i < H1.next := hlt10
  have g1 := hN1.ge
  refine MWp.call envOk (call9f a b st c k H1) (hR H1 b _ _ hPb hN1.lock hN1.clean (by omega)) ?_
  rintro v H2 ⟨rfl, hN2, O3, V3, hM3, hO3, hV3⟩
  refine MWp.halted ctxH_ok _ _ _ (run9g a b st c k H1 H2) trivial ?_
  refine MWp.ltn fun hlt20 hsm20 => ?_
  have hlt2 : ∀ i o, H2.get i = some o → i < H2.next := hlt20
  have hsm2 : H2.next < big := hsm20
  have hdis : ∀ i ∈ V1, i ∉ [b, bb] ++ (VI2 ++ VO2) := fun i hi h => by
    rcases hV1 i hi with h1 | h1
    · exact hap i h1 h
    · have := hP2.lt hlt i h; omega
  have hPa : PM H2 a s' O1 V1 := hM1.same fun i hi => hN2.old i (hM1.lt hlt1 i hi) (fun hO => hdis i hi (hPb.sub i hO))
  obtain ⟨ba, rga, iva, ova, VIa, VOa, pa, rfl, rfl⟩ := hPa
  obtain ⟨bc, rgb, ivb, ovb, VIb, VOb, pb, rfl, rfl⟩ := hM3
  have hz : ∀ i, i = 0 ∨ i = 1 → (H1.get i = H.get i ∧ H2.get i = H.get i) ∧ i ∉ V ∧ i ∉ [b, bb] ++ (VI2 ++ VO2) ∧ i < H.next := fun i hi => by
    have h1 := hV i (by rcases hi with rfl | rfl <;> simp)
    have h2 : i < H.next := by rcases hi with rfl | rfl <;> omega
    have h3 := old1 i h2 h1.1
    refine ⟨⟨h3, ?_⟩, h1.1, h1.2, h2⟩
    rw [hN2.old i (by have := hN1.le; omega) (fun hO => h1.2 (hPb.sub i hO)), h3]
  have nz : ∀ i, i = 0 ∨ i = 1 → i ≠ a ∧ i ≠ ba ∧ i ≠ b ∧ i ≠ bc := fun i hi => by
    obtain ⟨⟨z1, z2⟩, z3, z4, z5⟩ := hz i hi
    have hg := h0
    refine ⟨?_, ?_, ?_, ?_⟩
    · rintro rfl; exact z3 (hP.self)
    · rintro rfl
      have := pa.mem; rw [z2] at this
      rcases hi with rfl | rfl
      · exact (h0 _).1 this
      · exact (h0 _).2 this
    · rintro rfl; exact z4 (by simp)
    · rintro rfl
      have := pb.mem; rw [z2] at this
      rcases hi with rfl | rfl
      · exact (h0 _).1 this
      · exact (h0 _).2 this
  have nd1 := pa.nd; have nd2 := pb.nd
  have hab : ∀ x ∈ [a, ba], ∀ y ∈ [b, bc], x ≠ y := by
    intro x hx y hy e
    subst e
    have hx1 : x ∈ [a, ba] ++ (VIa ++ VOa) := by simp at hx ⊢; grind
    have hy1 : x ∈ [b, bc] ++ (VIb ++ VOb) := by simp at hy ⊢; grind
    rcases hV3 x hy1 with h1 | h1
    · exact hdis x hx1 h1
    · have := hM1.lt hlt1 x hx1; omega
  have n0 := nz 0 (.inl rfl); have n1 := nz 1 (.inr rfl)
  have q1 := hab a (by simp) b (by simp); have q2 := hab a (by simp) bc (by simp); have q3 := hab ba (by simp) b (by simp); have q4 := hab ba (by simp) bc (by simp)
  have q5 : a ≠ ba := by intro e; subst e; simp at nd1
  have q6 : b ≠ bc := by intro e; subst e; simp at nd2
  rw [← vals9 a ba b bc c k]
  refine MWp.sit (os := os9 s'.m s'.g) [0, 1, a, ba, b, bc] (sit9 c k _ _) hN2.lock ?_ rfl ?_ ?_ ?_ plain_os9 (fin9_ok c k s'.m s'.g)
  · simp only [List.nodup_cons, List.mem_cons, List.not_mem_nil, or_false, not_or, List.nodup_nil, and_true, not_false_eq_true]
    exact ⟨⟨by omega, n0.1, n0.2.1, n0.2.2.1, n0.2.2.2⟩, ⟨n1.1, n1.2.1, n1.2.2.1, n1.2.2.2⟩, ⟨q5, q1, q2⟩, ⟨q3, q4⟩, q6⟩
  · intro i hi
    have : i = 0 ∨ i = 1 := by omega
    rcases this with rfl | rfl <;> rfl
  · intro x hx
    simp only [List.mem_cons, List.not_mem_nil, or_false] at hx
    rcases hx with rfl | rfl | rfl | rfl | rfl | rfl
    · omega
    · omega
    · exact Nat.lt_trans (hlt2 _ _ pa.cells) hsm2
    · exact Nat.lt_trans (hlt2 _ _ pa.mem) hsm2
    · exact Nat.lt_trans (hlt2 _ _ pb.cells) hsm2
    · exact Nat.lt_trans (hlt2 _ _ pb.mem) hsm2
  · show Each2 OWo [H2.get 0, H2.get 1, H2.get a, H2.get ba, H2.get b, H2.get bc] [none, none, some (.cells (cellsPb ba 0 s'.m anyV anyV) 60), some (memL s'.g), some (.cells (cellsPb bc 0 s'.m anyV anyV) 60), some (memL s'.g)]
    rw [pa.cells, pa.mem, pb.cells, pb.mem]
    exact ⟨trivial, trivial, OWo.cells (vwCells (VW.any _) (VW.any _)), OWo.refl _, OWo.cells (vwCells (VW.any _) (VW.any _)), OWo.refl _, trivial⟩
end Go.Proofs.Ytpggoincnebfnaa
namespace Go.Proofs.Ytpggoincnebfnaa
open Go Go.Ly Go.RowKit
theorem gokZ : Gok 0 (GA [] 0) := Gok.nil
theorem gokBB {fa fb : Nat → Int} {k : Nat} (h : ∀ e, e < k + 1 → B16 (fa e) ∧ B8 (fb e)) : Gok (k + 1) (fun i j => bbG fa fb (0 + i) j) := (Gok.bb h).shift
theorem gLH9 : ctxH.fn.get 9 = some Try.f9 := by kernel_rfl
theorem gLO9 : ctxO.fn.get 9 = some Try.f9 := by kernel_rfl
theorem pm_E {H : Heap} {p b : Nat} {s : Sv} {g f : Nat → Int} {iv : Value} (h1 : H.get p = some (.cells (cellsPb b 0 (mOf s) iv nilV) 60)) (h2 : H.get b = some (memL g)) (hiv : ∃ a c, iv = .slice (some a) 0 c) (hn : p ≠ b) : PM H p (jOf s g 0 f) [p, b] [p, b] :=
  ⟨b, 0, iv, nilV, [], [], ⟨h1, h2, trivial, .inl ⟨rfl, rfl, .inr hiv⟩, .inl ⟨rfl, rfl, rfl⟩, by simp [hn]⟩, rfl, rfl⟩
theorem pm_R {H : Heap} {p b x n : Nat} {s : Sv} {g f : Nat → Int} (h1 : H.get p = some (.cells (cellsPb b 0 (mOf s) (inV x 0 (n + 1)) nilV) 60)) (h2 : H.get b = some (memL g)) (h3 : H.get x = some (rowP f (n + 1))) (hn : [p, b, x].Nodup) : PM H p (jOf s g (n + 1) f) [p, b] [p, b, x] :=
  ⟨b, 0, inV x 0 (n + 1), nilV, [x], [], ⟨h1, h2, trivial, .inr ⟨Nat.zero_lt_succ _, x, rfl, rfl, h3⟩, .inl ⟨rfl, rfl, rfl⟩, hn⟩, rfl, rfl⟩
theorem c9_NN (s : Sv) (n k : Nat) (f fa fb : Nat → Int) (st : Int) (hs : s.Ok) (hst : st ≤ 100) : LCalls Try.prog 9 [svV s nilS nilS, .int .i64 st] (mkH [some (ints .u8 f n), some (bytes2 fa fb k)]) (fun u _ => u = .bool true) := by
  refine LCalls_of ctxH_ok gLH9 (by kernel_rfl) (MWp.haltH ctxH_ok _ _ _ _ (e9_NN s n k f fa fb st) (tr_cons (tTh9_ok (by omega)) trivial) ?_)
  intro H hnx hl hc hos
  simp only [List.map_cons, List.map_nil, List.cons.injEq, and_true, gs_eq] at hos
  obtain ⟨h1, h2, h3, h4, h5, h6, h7, h8, h9, h10⟩ := hos
  exact tail9 (s := jOf s gZ 0 f) (B := [7]) (n := 0) (f := f) (f' := f) hl hc (pm_E h1 h2 ⟨_, _, rfl⟩ (by decide)) (pm_E h3 h4 ⟨_, _, rfl⟩ (by decide)) (by intro i h1 h2; revert i; decide) h5 h6 h7 rfl (fun K hK => ⟨isB_emp (f := f) (by rw [hK 7 (by simp)]; exact h10), isB_nil _ f⟩) (fun _ _ => rfl) (by omega) (by rw [hnx]; decide) (by decide) (fun g => ⟨(by rw [h8]; intro h; cases h), (by rw [h9]; intro h; cases h)⟩) (by omega) (jOf_ok hs (gokZ).mem (fun e he => by omega)) rfl (by show 0 ≤ 1000; omega) (by omega) hst
theorem q9_NN0 (s : Sv) (n k : Nat) (f fa fb : Nat → Int) (st : Int) : endsAt [] (Ly.run ctxO 9000 [(13, true)] (Ly.start Try.f9 [svV s nilS nilS, .int .i64 st] (mkH [some (ints .u8 f n), some (bytes2 fa fb k)]))) = some ([((tTh9 st).1, true)], .bool true, 4, []) := by kernel_rfl
theorem c9_NE (s : Sv) (n k : Nat) (f fa fb : Nat → Int) (st : Int) (hs : s.Ok) (hst : st ≤ 100) : LCalls Try.prog 9 [svV s nilS (sls 1 0), .int .i64 st] (mkH [some (ints .u8 f n), some (bytes2 fa fb 0)]) (fun u _ => u = .bool true) := by
  refine LCalls_of ctxH_ok gLH9 (by kernel_rfl) (MWp.haltH ctxH_ok _ _ _ _ (e9_NE s n k f fa fb st) (tr_cons (tTh9_ok (by omega)) trivial) ?_)
  intro H hnx hl hc hos
  simp only [List.map_cons, List.map_nil, List.cons.injEq, and_true, gs_eq] at hos
  obtain ⟨h1, h2, h3, h4, h5, h6, h7, h8, h9, h10⟩ := hos
  exact tail9 (s := jOf s gZ 0 f) (B := [7]) (n := 0) (f := f) (f' := f) hl hc (pm_E h1 h2 ⟨_, _, rfl⟩ (by decide)) (pm_E h3 h4 ⟨_, _, rfl⟩ (by decide)) (by intro i h1 h2; revert i; decide) h5 h6 h7 rfl (fun K hK => ⟨isB_emp (f := f) (by rw [hK 7 (by simp)]; exact h10), isB_nil _ f⟩) (fun _ _ => rfl) (by omega) (by rw [hnx]; decide) (by decide) (fun g => ⟨(by rw [h8]; intro h; cases h), (by rw [h9]; intro h; cases h)⟩) (by omega) (jOf_ok hs (gokZ).mem (fun e he => by omega)) rfl (by show 0 ≤ 1000; omega) (by omega) hst
theorem q9_NE0 (s : Sv) (n k : Nat) (f fa fb : Nat → Int) (st : Int) : endsAt [] (Ly.run ctxO 9000 [(13, true)] (Ly.start Try.f9 [svV s nilS (sls 1 0), .int .i64 st] (mkH [some (ints .u8 f n), some (bytes2 fa fb 0)]))) = some ([((tTh9 st).1, true)], .bool true, 4, []) := by kernel_rfl
theorem c9_NR (s : Sv) (n k : Nat) (f fa fb : Nat → Int) (st : Int) (hs : s.Ok) (hst : st ≤ 100) (hk : k + 1 ≤ 300) (hb : ∀ e, e < k + 1 → B16 (fa e) ∧ B8 (fb e)) : LCalls Try.prog 9 [svV s nilS (sls 1 (k + 1)), .int .i64 st] (mkH [some (ints .u8 f n), some (bytes2 fa fb (k + 1))]) (fun u _ => u = .bool true) := by
  refine LCalls_of ctxH_ok gLH9 (by kernel_rfl) (MWp.haltH ctxH_ok _ _ _ _ (e9_NR s n k f fa fb st) (tr_cons (tLn8_ok (by omega)) (tr_cons (tTh9_ok (by omega)) (tr_cons (okBB_ok hb (by omega)) trivial))) ?_)
  intro H hnx hl hc hos
  simp only [List.map_cons, List.map_nil, List.cons.injEq, and_true, gs_eq] at hos
  obtain ⟨h1, h2, h3, h4, h5, h6, h7, h8, h9, h10⟩ := hos
  exact tail9 (s := jOf s (gBB fa fb k) 0 f) (B := [7]) (n := 0) (f := f) (f' := f) hl hc (pm_E h1 h2 ⟨_, _, rfl⟩ (by decide)) (pm_E h3 h4 ⟨_, _, rfl⟩ (by decide)) (by intro i h1 h2; revert i; decide) h5 h6 h7 rfl (fun K hK => ⟨isB_emp (f := f) (by rw [hK 7 (by simp)]; exact h10), isB_nil _ f⟩) (fun _ _ => rfl) (by omega) (by rw [hnx]; decide) (by decide) (fun g => ⟨(by rw [h8]; intro h; cases h), (by rw [h9]; intro h; cases h)⟩) (by omega) (jOf_ok hs (gokBB hb).mem (fun e he => by omega)) rfl (by show 0 ≤ 1000; omega) (by omega) hst
theorem q9_NR0 (s : Sv) (n k : Nat) (f fa fb : Nat → Int) (st : Int) : endsAt [] (Ly.run ctxO 9000 [(5, false)] (Ly.start Try.f9 [svV s nilS (sls 1 (k + 1)), .int .i64 st] (mkH [some (ints .u8 f n), some (bytes2 fa fb (k + 1))]))) = some ([((tLn8 k).1, false)], .bool true, 4, []) := by kernel_rfl
theorem q9_NR1 (s : Sv) (n k : Nat) (f fa fb : Nat → Int) (st : Int) : endsAt [] (Ly.run ctxO 9000 [(5, true), (7, true)] (Ly.start Try.f9 [svV s nilS (sls 1 (k + 1)), .int .i64 st] (mkH [some (ints .u8 f n), some (bytes2 fa fb (k + 1))]))) = some ([tLn8 k, ((tTh9 st).1, true)], .bool true, 4, []) := by kernel_rfl
theorem c9_EN (s : Sv) (n k : Nat) (f fa fb : Nat → Int) (st : Int) (hs : s.Ok) (hst : st ≤ 100) : LCalls Try.prog 9 [svV s (sl 0 0) nilS, .int .i64 st] (mkH [some (ints .u8 f 0), some (bytes2 fa fb k)]) (fun u _ => u = .bool true) := by
  refine LCalls_of ctxH_ok gLH9 (by kernel_rfl) (MWp.haltH ctxH_ok _ _ _ _ (e9_EN s n k f fa fb st) (tr_cons (tTh9_ok (by omega)) trivial) ?_)
  intro H hnx hl hc hos
  simp only [List.map_cons, List.map_nil, List.cons.injEq, and_true, gs_eq] at hos
  obtain ⟨h1, h2, h3, h4, h5, h6, h7, h8, h9, h10⟩ := hos
  exact tail9 (s := jOf s gZ 0 f) (B := [7, 0]) (n := 0) (f := f) (f' := f) hl hc (pm_E h1 h2 ⟨_, _, rfl⟩ (by decide)) (pm_E h3 h4 ⟨_, _, rfl⟩ (by decide)) (by intro i h1 h2; revert i; decide) h5 h6 h7 rfl (fun K hK => ⟨isB_emp (f := f) (by rw [hK 7 (by simp)]; exact h10), isB_row (f := f) (by rw [hK 0 (by simp)]; exact h8) rfl (Nat.le_refl _)⟩) (fun _ _ => rfl) (by omega) (by rw [hnx]; decide) (by decide) (fun g => ⟨(by rw [h8]; intro h; cases h), (by rw [h9]; intro h; cases h)⟩) (by omega) (jOf_ok hs (gokZ).mem (fun e he => by omega)) rfl (by show 0 ≤ 1000; omega) (by omega) hst
theorem q9_EN0 (s : Sv) (n k : Nat) (f fa fb : Nat → Int) (st : Int) : endsAt [] (Ly.run ctxO 9000 [(13, true)] (Ly.start Try.f9 [svV s (sl 0 0) nilS, .int .i64 st] (mkH [some (ints .u8 f 0), some (bytes2 fa fb k)]))) = some ([((tTh9 st).1, true)], .bool true, 4, []) := by kernel_rfl
theorem c9_EE (s : Sv) (n k : Nat) (f fa fb : Nat → Int) (st : Int) (hs : s.Ok) (hst : st ≤ 100) : LCalls Try.prog 9 [svV s (sl 0 0) (sls 1 0), .int .i64 st] (mkH [some (ints .u8 f 0), some (bytes2 fa fb 0)]) (fun u _ => u = .bool true) := by
  refine LCalls_of ctxH_ok gLH9 (by kernel_rfl) (MWp.haltH ctxH_ok _ _ _ _ (e9_EE s n k f fa fb st) (tr_cons (tTh9_ok (by omega)) trivial) ?_)
  intro H hnx hl hc hos
  simp only [List.map_cons, List.map_nil, List.cons.injEq, and_true, gs_eq] at hos
  obtain ⟨h1, h2, h3, h4, h5, h6, h7, h8, h9, h10⟩ := hos
  exact tail9 (s := jOf s gZ 0 f) (B := [7, 0]) (n := 0) (f := f) (f' := f) hl hc (pm_E h1 h2 ⟨_, _, rfl⟩ (by decide)) (pm_E h3 h4 ⟨_, _, rfl⟩ (by decide)) (by intro i h1 h2; revert i; decide) h5 h6 h7 rfl (fun K hK => ⟨isB_emp (f := f) (by rw [hK 7 (by simp)]; exact h10), isB_row (f := f) (by rw [hK 0 (by simp)]; exact h8) rfl (Nat.le_refl _)⟩) (fun _ _ => rfl) (by omega) (by rw [hnx]; decide) (by decide) (fun g => ⟨(by rw [h8]; intro h; cases h), (by rw [h9]; intro h; cases h)⟩) (by omega) (jOf_ok hs (gokZ).mem (fun e he => by omega)) rfl (by show 0 ≤ 1000; omega) (by omega) hst
theorem q9_EE0 (s : Sv) (n k : Nat) (f fa fb : Nat → Int) (st : Int) : endsAt [] (Ly.run ctxO 9000 [(13, true)] (Ly.start Try.f9 [svV s (sl 0 0) (sls 1 0), .int .i64 st] (mkH [some (ints .u8 f 0), some (bytes2 fa fb 0)]))) = some ([((tTh9 st).1, true)], .bool true, 4, []) := by kernel_rfl
theorem c9_ER (s : Sv) (n k : Nat) (f fa fb : Nat → Int) (st : Int) (hs : s.Ok) (hst : st ≤ 100) (hk : k + 1 ≤ 300) (hb : ∀ e, e < k + 1 → B16 (fa e) ∧ B8 (fb e)) : LCalls Try.prog 9 [svV s (sl 0 0) (sls 1 (k + 1)), .int .i64 st] (mkH [some (ints .u8 f 0), some (bytes2 fa fb (k + 1))]) (fun u _ => u = .bool true) := by
  refine LCalls_of ctxH_ok gLH9 (by kernel_rfl) (MWp.haltH ctxH_ok _ _ _ _ (e9_ER s n k f fa fb st) (tr_cons (tLn8_ok (by omega)) (tr_cons (tTh9_ok (by omega)) (tr_cons (okBB_ok hb (by omega)) trivial))) ?_)
  intro H hnx hl hc hos
  simp only [List.map_cons, List.map_nil, List.cons.injEq, and_true, gs_eq] at hos
  obtain ⟨h1, h2, h3, h4, h5, h6, h7, h8, h9, h10⟩ := hos
  exact tail9 (s := jOf s (gBB fa fb k) 0 f) (B := [7, 0]) (n := 0) (f := f) (f' := f) hl hc (pm_E h1 h2 ⟨_, _, rfl⟩ (by decide)) (pm_E h3 h4 ⟨_, _, rfl⟩ (by decide)) (by intro i h1 h2; revert i; decide) h5 h6 h7 rfl (fun K hK => ⟨isB_emp (f := f) (by rw [hK 7 (by simp)]; exact h10), isB_row (f := f) (by rw [hK 0 (by simp)]; exact h8) rfl (Nat.le_refl _)⟩) (fun _ _ => rfl) (by omega) (by rw [hnx]; decide) (by decide) (fun g => ⟨(by rw [h8]; intro h; cases h), (by rw [h9]; intro h; cases h)⟩) (by omega) (jOf_ok hs (gokBB hb).mem (fun e he => by omega)) rfl (by show 0 ≤ 1000; omega) (by omega) hst
theorem q9_ER0 (s : Sv) (n k : Nat) (f fa fb : Nat → Int) (st : Int) : endsAt [] (Ly.run ctxO 9000 [(5, false)] (Ly.start Try.f9 [svV s (sl 0 0) (sls 1 (k + 1)), .int .i64 st] (mkH [some (ints .u8 f 0), some (bytes2 fa fb (k + 1))]))) = some ([((tLn8 k).1, false)], .bool true, 4, []) := by kernel_rfl
theorem q9_ER1 (s : Sv) (n k : Nat) (f fa fb : Nat → Int) (st : Int) : endsAt [] (Ly.run ctxO 9000 [(5, true), (7, true)] (Ly.start Try.f9 [svV s (sl 0 0) (sls 1 (k + 1)), .int .i64 st] (mkH [some (ints .u8 f 0), some (bytes2 fa fb (k + 1))]))) = some ([tLn8 k, ((tTh9 st).1, true)], .bool true, 4, []) := by kernel_rfl
theorem c9_RN (s : Sv) (n k : Nat) (f fa fb : Nat → Int) (st : Int) (hs : s.Ok) (hst : st ≤ 100) (hn : n + 1 ≤ 256) (hf : ∀ e, e < n + 1 → B8 (f e)) : LCalls Try.prog 9 [svV s (sl 0 (n + 1)) nilS, .int .i64 st] (mkH [some (ints .u8 f (n + 1)), some (bytes2 fa fb k)]) (fun u _ => u = .bool true) := by
  refine LCalls_of ctxH_ok gLH9 (by kernel_rfl) (MWp.haltH ctxH_ok _ _ _ _ (e9_RN s n k f fa fb st) (tr_cons (tLi_ok (by omega)) (tr_cons (tMe_ok (by omega)) (tr_cons (tTh9_ok (by omega)) (tr_cons (tR1_ok (by omega)) (tr_cons (tMz_ok (by omega)) (tr_cons (tRz_ok (by omega)) (tr_cons (tMz_ok (by omega)) (tr_cons (tRz_ok (by omega)) trivial)))))))) ?_)
  intro H hnx hl hc hos
  simp only [List.map_cons, List.map_nil, List.cons.injEq, and_true, gs_eq] at hos
  obtain ⟨h1, h2, h3, h4, h5, h6, h7, h8, h9, h10, h11, h12⟩ := hos
  simp only [Nat.zero_add] at h1 h3 h10 h11 h12
  exact tail9 (s := jOf s gZ (n + 1) f) (B := [8, 0]) (n := (n + 1)) (f := f) (f' := f) hl hc (pm_R h1 h2 h11 (by decide)) (pm_R h3 h4 h12 (by decide)) (by intro i h1 h2; revert i; decide) h5 h6 h7 rfl (fun K hK => ⟨by rw [Nat.zero_add]; exact isB_row (f := f) (by rw [hK 8 (by simp)]; exact h10) rfl (Nat.le_refl _), isB_row (f := f) (by rw [hK 0 (by simp)]; exact h8) rfl (Nat.le_refl _)⟩) (fun _ _ => rfl) (by omega) (by rw [hnx]; decide) (by decide) (fun g => ⟨(by rw [h8]; intro h; cases h), (by rw [h9]; intro h; cases h)⟩) (by omega) (jOf_ok hs (gokZ).mem hf) rfl (by show (n + 1) ≤ 1000; omega) (by omega) hst
theorem q9_RN0 (s : Sv) (n k : Nat) (f fa fb : Nat → Int) (st : Int) : endsAt [] (Ly.run ctxO 9000 [(0, false)] (Ly.start Try.f9 [svV s (sl 0 (n + 1)) nilS, .int .i64 st] (mkH [some (ints .u8 f (n + 1)), some (bytes2 fa fb k)]))) = some ([((tLi n).1, false)], .bool true, 4, []) := by kernel_rfl
theorem q9_RN1 (s : Sv) (n k : Nat) (f fa fb : Nat → Int) (st : Int) : endsAt [] (Ly.run ctxO 9000 [(0, true), (9, false)] (Ly.start Try.f9 [svV s (sl 0 (n + 1)) nilS, .int .i64 st] (mkH [some (ints .u8 f (n + 1)), some (bytes2 fa fb k)]))) = some ([tLi n, ((tMe n).1, false)], .bool true, 4, []) := by kernel_rfl
theorem q9_RN2 (s : Sv) (n k : Nat) (f fa fb : Nat → Int) (st : Int) : endsAt [] (Ly.run ctxO 9000 [(0, true), (9, true), (2, true)] (Ly.start Try.f9 [svV s (sl 0 (n + 1)) nilS, .int .i64 st] (mkH [some (ints .u8 f (n + 1)), some (bytes2 fa fb k)]))) = some ([tLi n, tMe n, ((tTh9 st).1, true)], .bool true, 4, []) := by kernel_rfl
theorem c9_RE (s : Sv) (n k : Nat) (f fa fb : Nat → Int) (st : Int) (hs : s.Ok) (hst : st ≤ 100) (hn : n + 1 ≤ 256) (hf : ∀ e, e < n + 1 → B8 (f e)) : LCalls Try.prog 9 [svV s (sl 0 (n + 1)) (sls 1 0), .int .i64 st] (mkH [some (ints .u8 f (n + 1)), some (bytes2 fa fb 0)]) (fun u _ => u = .bool true) := by
  refine LCalls_of ctxH_ok gLH9 (by kernel_rfl) (MWp.haltH ctxH_ok _ _ _ _ (e9_RE s n k f fa fb st) (tr_cons (tLi_ok (by omega)) (tr_cons (tMe_ok (by omega)) (tr_cons (tTh9_ok (by omega)) (tr_cons (tR1_ok (by omega)) (tr_cons (tMz_ok (by omega)) (tr_cons (tRz_ok (by omega)) (tr_cons (tMz_ok (by omega)) (tr_cons (tRz_ok (by omega)) trivial)))))))) ?_)
  intro H hnx hl hc hos
  simp only [List.map_cons, List.map_nil, List.cons.injEq, and_true, gs_eq] at hos
  obtain ⟨h1, h2, h3, h4, h5, h6, h7, h8, h9, h10, h11, h12⟩ := hos
  simp only [Nat.zero_add] at h1 h3 h10 h11 h12
  exact tail9 (s := jOf s gZ (n + 1) f) (B := [8, 0]) (n := (n + 1)) (f := f) (f' := f) hl hc (pm_R h1 h2 h11 (by decide)) (pm_R h3 h4 h12 (by decide)) (by intro i h1 h2; revert i; decide) h5 h6 h7 rfl (fun K hK => ⟨by rw [Nat.zero_add]; exact isB_row (f := f) (by rw [hK 8 (by simp)]; exact h10) rfl (Nat.le_refl _), isB_row (f := f) (by rw [hK 0 (by simp)]; exact h8) rfl (Nat.le_refl _)⟩) (fun _ _ => rfl) (by omega) (by rw [hnx]; decide) (by decide) (fun g => ⟨(by rw [h8]; intro h; cases h), (by rw [h9]; intro h; cases h)⟩) (by omega) (jOf_ok hs (gokZ).mem hf) rfl (by show (n + 1) ≤ 1000; omega) (by omega) hst
theorem q9_RE0 (s : Sv) (n k : Nat) (f fa fb : Nat → Int) (st : Int) : endsAt [] (Ly.run ctxO 9000 [(0, false)] (Ly.start Try.f9 [svV s (sl 0 (n + 1)) (sls 1 0), .int .i64 st] (mkH [some (ints .u8 f (n + 1)), some (bytes2 fa fb 0)]))) = some ([((tLi n).1, false)], .bool true, 4, []) := by kernel_rfl
theorem q9_RE1 (s : Sv) (n k : Nat) (f fa fb : Nat → Int) (st : Int) : endsAt [] (Ly.run ctxO 9000 [(0, true), (9, false)] (Ly.start Try.f9 [svV s (sl 0 (n + 1)) (sls 1 0), .int .i64 st] (mkH [some (ints .u8 f (n + 1)), some (bytes2 fa fb 0)]))) = some ([tLi n, ((tMe n).1, false)], .bool true, 4, []) := by kernel_rfl
theorem q9_RE2 (s : Sv) (n k : Nat) (f fa fb : Nat → Int) (st : Int) : endsAt [] (Ly.run ctxO 9000 [(0, true), (9, true), (2, true)] (Ly.start Try.f9 [svV s (sl 0 (n + 1)) (sls 1 0), .int .i64 st] (mkH [some (ints .u8 f (n + 1)), some (bytes2 fa fb 0)]))) = some ([tLi n, tMe n, ((tTh9 st).1, true)], .bool true, 4, []) := by kernel_rfl
theorem c9_RR (s : Sv) (n k : Nat) (f fa fb : Nat → Int) (st : Int) (hs : s.Ok) (hst : st ≤ 100) (hn : n + 1 ≤ 256) (hf : ∀ e, e < n + 1 → B8 (f e)) (hk : k + 1 ≤ 300) (hb : ∀ e, e < k + 1 → B16 (fa e) ∧ B8 (fb e)) : LCalls Try.prog 9 [svV s (sl 0 (n + 1)) (sls 1 (k + 1)), .int .i64 st] (mkH [some (ints .u8 f (n + 1)), some (bytes2 fa fb (k + 1))]) (fun u _ => u = .bool true) := by
  refine LCalls_of ctxH_ok gLH9 (by kernel_rfl) (MWp.haltH ctxH_ok _ _ _ _ (e9_RR s n k f fa fb st) (tr_cons (tLi_ok (by omega)) (tr_cons (tLn8_ok (by omega)) (tr_cons (tMe_ok (by omega)) (tr_cons (tTh9_ok (by omega)) (tr_cons (okBB_ok hb (by omega)) (tr_cons (tR1_ok (by omega)) (tr_cons (tMz_ok (by omega)) (tr_cons (tRz_ok (by omega)) (tr_cons (tMz_ok (by omega)) (tr_cons (tRz_ok (by omega)) trivial)))))))))) ?_)
  intro H hnx hl hc hos
  simp only [List.map_cons, List.map_nil, List.cons.injEq, and_true, gs_eq] at hos
  obtain ⟨h1, h2, h3, h4, h5, h6, h7, h8, h9, h10, h11, h12⟩ := hos
  simp only [Nat.zero_add] at h1 h3 h10 h11 h12
  exact tail9 (s := jOf s (gBB fa fb k) (n + 1) f) (B := [8, 0]) (n := (n + 1)) (f := f) (f' := f) hl hc (pm_R h1 h2 h11 (by decide)) (pm_R h3 h4 h12 (by decide)) (by intro i h1 h2; revert i; decide) h5 h6 h7 rfl (fun K hK => ⟨by rw [Nat.zero_add]; exact isB_row (f := f) (by rw [hK 8 (by simp)]; exact h10) rfl (Nat.le_refl _), isB_row (f := f) (by rw [hK 0 (by simp)]; exact h8) rfl (Nat.le_refl _)⟩) (fun _ _ => rfl) (by omega) (by rw [hnx]; decide) (by decide) (fun g => ⟨(by rw [h8]; intro h; cases h), (by rw [h9]; intro h; cases h)⟩) (by omega) (jOf_ok hs (gokBB hb).mem hf) rfl (by show (n + 1) ≤ 1000; omega) (by omega) hst
theorem q9_RR0 (s : Sv) (n k : Nat) (f fa fb : Nat → Int) (st : Int) : endsAt [] (Ly.run ctxO 9000 [(0, false)] (Ly.start Try.f9 [svV s (sl 0 (n + 1)) (sls 1 (k + 1)), .int .i64 st] (mkH [some (ints .u8 f (n + 1)), some (bytes2 fa fb (k + 1))]))) = some ([((tLi n).1, false)], .bool true, 4, []) := by kernel_rfl
theorem q9_RR1 (s : Sv) (n k : Nat) (f fa fb : Nat → Int) (st : Int) : endsAt [] (Ly.run ctxO 9000 [(0, true), (4, false)] (Ly.start Try.f9 [svV s (sl 0 (n + 1)) (sls 1 (k + 1)), .int .i64 st] (mkH [some (ints .u8 f (n + 1)), some (bytes2 fa fb (k + 1))]))) = some ([tLi n, ((tLn8 k).1, false)], .bool true, 4, []) := by kernel_rfl
theorem q9_RR2 (s : Sv) (n k : Nat) (f fa fb : Nat → Int) (st : Int) : endsAt [] (Ly.run ctxO 9000 [(0, true), (4, true), (4, false)] (Ly.start Try.f9 [svV s (sl 0 (n + 1)) (sls 1 (k + 1)), .int .i64 st] (mkH [some (ints .u8 f (n + 1)), some (bytes2 fa fb (k + 1))]))) = some ([tLi n, tLn8 k, ((tMe n).1, false)], .bool true, 4, []) := by kernel_rfl
theorem q9_RR3 (s : Sv) (n k : Nat) (f fa fb : Nat → Int) (st : Int) : endsAt [] (Ly.run ctxO 9000 [(0, true), (4, true), (4, true), (2, true)] (Ly.start Try.f9 [svV s (sl 0 (n + 1)) (sls 1 (k + 1)), .int .i64 st] (mkH [some (ints .u8 f (n + 1)), some (bytes2 fa fb (k + 1))]))) = some ([tLi n, tLn8 k, tMe n, ((tTh9 st).1, true)], .bool true, 4, []) := by kernel_rfl
theorem apart_walk (W : World) (v0 v1 : Value) (h0 : ∃ cs, v0 = .agg ⟨cs⟩ ∧ CksOk W [.int .u8, .int .u8, .int .u8, .int .u8, .int .u8, .int .u8, .int .u8, .int .u8, .bool, .bool, .bool, .bool, .bool, .int .u16, .int .u16, .bool, .slice [.int .u8], .slice [.int .u16, .int .u8]] cs)
    (h1 : CkOk W (.int .i64) v1) : Calls Try.prog 9 #[v0, v1] W fun e W' => e = .returned (.bool true) ∧ Below W.heap.size W W' := by
  simp only [CkOk] at h1
  obtain ⟨st, rfl, hst⟩ := h1
  refine start_law h0 (rest := [.int .i64 st]) (by simp [plain, plainL]) ?_ ?_ ?_ ?_ ?_ ?_ ?_ ?_ ?_
  · intro s n k f fa fb hs
    rcases Int.lt_or_le 100 st with x0 | x0
    · exact (Ends.of_run ctxO_ok 9000 _ gLO9 (by kernel_rfl) (q9_NN0 s n k f fa fb st) (tr_cons (tTh9_no (by omega)) trivial)).mono (fun u K h => h.1)
    exact c9_NN s n k f fa fb st hs (by omega)
  · intro s n k f fa fb hs
    rcases Int.lt_or_le 100 st with x0 | x0
    · exact (Ends.of_run ctxO_ok 9000 _ gLO9 (by kernel_rfl) (q9_NE0 s n k f fa fb st) (tr_cons (tTh9_no (by omega)) trivial)).mono (fun u K h => h.1)
    exact c9_NE s n k f fa fb st hs (by omega)
  · intro s n k f fa fb hs hb
    rcases Nat.lt_or_ge 300 (k + 1) with x0 | x0
    · exact (Ends.of_run ctxO_ok 9000 _ gLO9 (by kernel_rfl) (q9_NR0 s n k f fa fb st) (tr_cons (tLn8_no (by omega)) trivial)).mono (fun u K h => h.1)
    rcases Int.lt_or_le 100 st with x1 | x1
    · exact (Ends.of_run ctxO_ok 9000 _ gLO9 (by kernel_rfl) (q9_NR1 s n k f fa fb st) (tr_cons (tLn8_ok (by omega)) (tr_cons (tTh9_no (by omega)) trivial))).mono (fun u K h => h.1)
    exact c9_NR s n k f fa fb st hs (by omega) (by omega) hb
  · intro s n k f fa fb hs
    rcases Int.lt_or_le 100 st with x0 | x0
    · exact (Ends.of_run ctxO_ok 9000 _ gLO9 (by kernel_rfl) (q9_EN0 s n k f fa fb st) (tr_cons (tTh9_no (by omega)) trivial)).mono (fun u K h => h.1)
    exact c9_EN s n k f fa fb st hs (by omega)
  · intro s n k f fa fb hs
    rcases Int.lt_or_le 100 st with x0 | x0
    · exact (Ends.of_run ctxO_ok 9000 _ gLO9 (by kernel_rfl) (q9_EE0 s n k f fa fb st) (tr_cons (tTh9_no (by omega)) trivial)).mono (fun u K h => h.1)
    exact c9_EE s n k f fa fb st hs (by omega)
  · intro s n k f fa fb hs hb
    rcases Nat.lt_or_ge 300 (k + 1) with x0 | x0
    · exact (Ends.of_run ctxO_ok 9000 _ gLO9 (by kernel_rfl) (q9_ER0 s n k f fa fb st) (tr_cons (tLn8_no (by omega)) trivial)).mono (fun u K h => h.1)
    rcases Int.lt_or_le 100 st with x1 | x1
    · exact (Ends.of_run ctxO_ok 9000 _ gLO9 (by kernel_rfl) (q9_ER1 s n k f fa fb st) (tr_cons (tLn8_ok (by omega)) (tr_cons (tTh9_no (by omega)) trivial))).mono (fun u K h => h.1)
    exact c9_ER s n k f fa fb st hs (by omega) (by omega) hb
  · intro s n k f fa fb hs hf
    rcases Nat.lt_or_ge 300 (n + 1) with x0 | x0
    · exact (Ends.of_run ctxO_ok 9000 _ gLO9 (by kernel_rfl) (q9_RN0 s n k f fa fb st) (tr_cons (tLi8_no (by omega)) trivial)).mono (fun u K h => h.1)
    rcases Nat.lt_or_ge 256 (n + 1) with x1 | x1
    · exact (Ends.of_run ctxO_ok 9000 _ gLO9 (by kernel_rfl) (q9_RN1 s n k f fa fb st) (tr_cons (tLi_ok (by omega)) (tr_cons (tMe8_no (by omega)) trivial))).mono (fun u K h => h.1)
    rcases Int.lt_or_le 100 st with x2 | x2
    · exact (Ends.of_run ctxO_ok 9000 _ gLO9 (by kernel_rfl) (q9_RN2 s n k f fa fb st) (tr_cons (tLi_ok (by omega)) (tr_cons (tMe_ok (by omega)) (tr_cons (tTh9_no (by omega)) trivial)))).mono (fun u K h => h.1)
    exact c9_RN s n k f fa fb st hs (by omega) (by omega) hf
  · intro s n k f fa fb hs hf
    rcases Nat.lt_or_ge 300 (n + 1) with x0 | x0
    · exact (Ends.of_run ctxO_ok 9000 _ gLO9 (by kernel_rfl) (q9_RE0 s n k f fa fb st) (tr_cons (tLi8_no (by omega)) trivial)).mono (fun u K h => h.1)
    rcases Nat.lt_or_ge 256 (n + 1) with x1 | x1
    · exact (Ends.of_run ctxO_ok 9000 _ gLO9 (by kernel_rfl) (q9_RE1 s n k f fa fb st) (tr_cons (tLi_ok (by omega)) (tr_cons (tMe8_no (by omega)) trivial))).mono (fun u K h => h.1)
    rcases Int.lt_or_le 100 st with x2 | x2
    · exact (Ends.of_run ctxO_ok 9000 _ gLO9 (by kernel_rfl) (q9_RE2 s n k f fa fb st) (tr_cons (tLi_ok (by omega)) (tr_cons (tMe_ok (by omega)) (tr_cons (tTh9_no (by omega)) trivial)))).mono (fun u K h => h.1)
    exact c9_RE s n k f fa fb st hs (by omega) (by omega) hf
  · intro s n k f fa fb hs hf hb
    rcases Nat.lt_or_ge 300 (n + 1) with x0 | x0
    · exact (Ends.of_run ctxO_ok 9000 _ gLO9 (by kernel_rfl) (q9_RR0 s n k f fa fb st) (tr_cons (tLi8_no (by omega)) trivial)).mono (fun u K h => h.1)
    rcases Nat.lt_or_ge 300 (k + 1) with x1 | x1
    · exact (Ends.of_run ctxO_ok 9000 _ gLO9 (by kernel_rfl) (q9_RR1 s n k f fa fb st) (tr_cons (tLi_ok (by omega)) (tr_cons (tLn8_no (by omega)) trivial))).mono (fun u K h => h.1)
    rcases Nat.lt_or_ge 256 (n + 1) with x2 | x2
    · exact (Ends.of_run ctxO_ok 9000 _ gLO9 (by kernel_rfl) (q9_RR2 s n k f fa fb st) (tr_cons (tLi_ok (by omega)) (tr_cons (tLn8_ok (by omega)) (tr_cons (tMe8_no (by omega)) trivial)))).mono (fun u K h => h.1)
    rcases Int.lt_or_le 100 st with x3 | x3
    · exact (Ends.of_run ctxO_ok 9000 _ gLO9 (by kernel_rfl) (q9_RR3 s n k f fa fb st) (tr_cons (tLi_ok (by omega)) (tr_cons (tLn8_ok (by omega)) (tr_cons (tMe_ok (by omega)) (tr_cons (tTh9_no (by omega)) trivial))))).mono (fun u K h => h.1)
    exact c9_RR s n k f fa fb st hs (by omega) (by omega) hf (by omega) hb
end Go.Proofs.Ytpggoincnebfnaa
end
