/- Isa80Back: the walk. -/
import Derived.Test.YtofimkcfenemlaaB6A
import Derived.Test.YtofimkcfenemlaaB6B
import Derived.Test.YtofimkcfenemlaaB6C
namespace Go.Proofs.Ytofimkcfenemlaa
open Go Go.Ly Go.RowKit
set_option linter.unusedSimpArgs false
set_option linter.unusedVariables false
set_option maxHeartbeats 4000000
set_option maxRecDepth 100000

theorem get6 : lctx.fn.get 6 = some Try.f6 := by kernel_rfl
noncomputable def jn (L : List Int) (f : Nat → Int) (e : Nat) : Int := (L[e]?).getD (f (e - L.length))
theorem jn_fun (L : List Int) (m : Nat) (f : Nat → Int) (i : Nat) : joinG L.length (Rw.fun 1 (Rw.lst L.length (L.map (Value.int .u8)))) (Rw.fun 1 (Rw.gen m fun i j => Value.int .u8 (f i))) i 0 = .int .u8 (jn L f i) := by
  unfold joinG jn
  rw [vif_eq]
  cases hb : Nat.blt i L.length with
  | true =>
    have h : i < L.length := by simpa [Nat.blt_eq] using hb
    simp only [cond_true, Rw.fun]
    rw [lstG_eq 1 _ _ i 0 h (by omega)]
    simp [h]
  | false =>
    have h : ¬ i < L.length := fun h => Bool.false_ne_true (hb.symm.trans (by rw [Nat.blt_eq]; exact h))
    simp only [cond_false, Rw.fun]
    rw [List.getElem?_eq_none (by omega)]; rfl
theorem j1 (a : Int) (m : Nat) (f : Nat → Int) (i : Nat) : joinG 1 (Rw.fun 1 (Rw.lst 1 [Value.int .u8 a])) (Rw.fun 1 (Rw.gen m fun i j => Value.int .u8 (f i))) i 0 = .int .u8 (jn [a] f i) := jn_fun [a] m f i
theorem j2 (a b : Int) (m : Nat) (f : Nat → Int) (i : Nat) : joinG 2 (Rw.fun 1 (Rw.lst 2 [Value.int .u8 a, Value.int .u8 b])) (Rw.fun 1 (Rw.gen m fun i j => Value.int .u8 (f i))) i 0 = .int .u8 (jn [a, b] f i) := jn_fun [a, b] m f i
theorem j3 (a b c : Int) (m : Nat) (f : Nat → Int) (i : Nat) : joinG 3 (Rw.fun 1 (Rw.lst 3 [Value.int .u8 a, Value.int .u8 b, Value.int .u8 c])) (Rw.fun 1 (Rw.gen m fun i j => Value.int .u8 (f i))) i 0 = .int .u8 (jn [a, b, c] f i) := jn_fun [a, b, c] m f i
theorem gen_at' (n : Nat) (g : Nat → Nat → Value) : (Rw.gen n g).at = fun e => intV (g e 0) := rfl
theorem gen_ints' (k : IntKind) (n : Nat) (g : Nat → Nat → Value) : Rw.ints k (Rw.gen n g) = (List.range n).all fun e => isK k (g e 0) := rfl
theorem isK8 (x : Int) : isK .u8 (.int .u8 x) = true := rfl
theorem intV_int (k : IntKind) (x : Int) : intV (.int k x) = x := rfl
theorem all_true (n : Nat) : ((List.range n).all fun _ => true) = true := by simp
theorem rd_ok (n : Nat) (g : Nat → Int) (s : Nat) (hs : sizeT (g 0) = s) (h0 : s ≠ 0) (hn : s ≤ n) : rdK n g = 0 ∧ rdO n g = g 0 ∧ rdS n g = s ∧ rdN n g = (bif s == 1 then 0 else bif s == 2 then g 1 else g 1 + 256 * g 2) := by
  have b0 : Nat.beq n 0 = false := by rw [Bool.eq_false_iff, Ne, Nat.beq_eq]; omega
  have b1 : ((s : Int) == 0) = false := by simpa using h0
  have b2 : decide ((n : Int) < (s : Int)) = false := by simp; omega
  have hF : rdF n g = false := by unfold rdF; rw [hs, b0, b1, b2]; rfl
  refine ⟨?_, ?_, ?_, ?_⟩
  · unfold rdK; rw [hs, b0, b1, b2]; rfl
  · unfold rdO; rw [hF]; rfl
  · unfold rdS; rw [hF, hs]; rfl
  · unfold rdN; rw [hF, hs]
    have c1 : ((s : Int) == 1) = (s == 1) := by rw [Bool.eq_iff_iff]; simp; omega
    have c2 : ((s : Int) == 2) = (s == 2) := by rw [Bool.eq_iff_iff]; simp; omega
    rw [c1, c2]; rfl
theorem rd_no (n : Nat) (g : Nat → Int) (h : n = 0 ∨ sizeT (g 0) = 0 ∨ (n : Int) < sizeT (g 0)) : rdK n g ≠ 0 ∧ rdS n g = 0 := by
  constructor
  · unfold rdK
    by_cases h0 : n = 0
    · subst h0; simp
    · have b0 : Nat.beq n 0 = false := by rw [Bool.eq_false_iff, Ne, Nat.beq_eq]; omega
      rw [b0]
      by_cases h1 : sizeT (g 0) = 0
      · simp [h1]
      · have h2 : (n : Int) < sizeT (g 0) := by omega
        have b1 : (sizeT (g 0) == 0) = false := by simpa using h1
        simp [b1, h2]
  · unfold rdS
    have : rdF n g = true := by
      unfold rdF
      rcases h with h | h | h
      · subst h; rfl
      · simp [h]
      · simp [h]
    rw [this]; rfl
theorem b6_row (op n : Int) (m : Nat) (f : Nat → Int) (h1 : inb op = true) (hn0 : 0 ≤ n) (hn1 : n ≤ 65535) (hf : ∀ e, e < m → 0 ≤ f e ∧ f e ≤ 255) : LCalls Try.prog 6 [.int .u8 op, .int .u16 n, sl 0 m] (mkH [some (ints .u8 f m)]) (fun u _ => u = .bool true) := by
  by_cases hm : (1000 : Int) < m
  · exact LCalls_trust lok 20000 _ get6 (by kernel_rfl) (b6xR0 op n m f) (by simp [trusted, hm])
  have hm' : m ≤ 4000 := by omega
  have hG := rdG_ok m f hf
  have hb := (inb_iff op).1 h1
  have aw := and255w n hn0 hn1
  have fd := fdiv256 n
  have u1 : 0 ≤ IntKind.u8.wrap n ∧ IntKind.u8.wrap n ≤ 255 := by rw [IntKind.wrap_u8]; omega
  have u2 : 0 ≤ IntKind.u8.wrap (n / 256) ∧ IntKind.u8.wrap (n / 256) ≤ 255 := by rw [IntKind.wrap_u8]; omega
  have u3 : IntKind.u8.wrap n + 256 * IntKind.u8.wrap (n / 256) = n := by rw [IntKind.wrap_u8, IntKind.wrap_u8]; omega
  have rest : (m = 0 ∨ sizeT (f 0) = 0 ∨ (m : Int) < sizeT (f 0)) ∨ (sizeT (f 0) = (1 : Nat) ∧ 1 ≤ m) ∨ (sizeT (f 0) = (2 : Nat) ∧ 2 ≤ m) ∨ (sizeT (f 0) = (3 : Nat) ∧ 3 ≤ m) := by
    by_cases h0 : m = 0
    · exact .inl (.inl h0)
    · have q := hf 0 (by omega)
      rcases size_cases (f 0) q.1 q.2 with e | e | e | e <;> omega
  rcases size_cases op hb.1 hb.2 with e1 | e1 | e1 | e1
  · rcases rest with r | ⟨r1, r2⟩ | ⟨r1, r2⟩ | ⟨r1, r2⟩
    · obtain ⟨q1, q2⟩ := rd_no m f r
      exact LCalls_trust lok 20000 _ get6 (by kernel_rfl) (b6R0 op n m f) (by simp only [trusted, rdP, rdR, gen_n, lst_n, Nat.zero_add, Nat.sub_zero, List.drop_zero, LO.cs, List.take_succ_cons, List.take_zero, j1, j2, j3, gen_at', gen_ints', isK8, intV_int, all_true, h1, hn0, hn1, hm, hG, fd, e1, q1, q2]; simp [eqU, lst_at, List.range_succ, intV_int, Nat.ble_eq, h1, hn0, hn1, hm, hG, fd, e1, q1, q2] <;> omega)
    · obtain ⟨q1, q2, q3, q4⟩ := rd_ok m f 1 r1 (by omega) r2
      simp at q4
      have a0 := hf 0 (by omega)
      have a0i := (inb_iff (f 0)).2 a0
      exact LCalls_trust lok 20000 _ get6 (by kernel_rfl) (b6R3 op n m f) (by simp only [trusted, rdP, rdR, gen_n, lst_n, Nat.zero_add, Nat.sub_zero, List.drop_zero, LO.cs, List.take_succ_cons, List.take_zero, j1, j2, j3, gen_at', gen_ints', isK8, intV_int, all_true, h1, hn0, hn1, hm, hG, fd, e1, q1, q2, q3, q4, r1, r2, a0i]; simp [eqU, lst_at, List.range_succ, intV_int, Nat.ble_eq, h1, hn0, hn1, hm, hG, fd, e1, q1, q2, q3, q4, r1, r2, a0i] <;> omega)
    · obtain ⟨q1, q2, q3, q4⟩ := rd_ok m f 2 r1 (by omega) r2
      simp at q4
      have a0 := hf 0 (by omega)
      have a0i := (inb_iff (f 0)).2 a0
      have a1 := hf 1 (by omega)
      have w1 := u8_id (f 1) a1.1 a1.2
      exact LCalls_trust lok 20000 _ get6 (by kernel_rfl) (b6R7 op n m f) (by simp only [trusted, rdP, rdR, gen_n, lst_n, Nat.zero_add, Nat.sub_zero, List.drop_zero, LO.cs, List.take_succ_cons, List.take_zero, j1, j2, j3, gen_at', gen_ints', isK8, intV_int, all_true, h1, hn0, hn1, hm, hG, fd, e1, q1, q2, q3, q4, r1, r2, a0i, w1, a1.1, a1.2]; simp [eqU, lst_at, List.range_succ, intV_int, Nat.ble_eq, h1, hn0, hn1, hm, hG, fd, e1, q1, q2, q3, q4, r1, r2, a0i, w1, a1.1, a1.2] <;> omega)
    · obtain ⟨q1, q2, q3, q4⟩ := rd_ok m f 3 r1 (by omega) r2
      simp at q4
      have a0 := hf 0 (by omega)
      have a0i := (inb_iff (f 0)).2 a0
      have a1 := hf 1 (by omega)
      have a2 := hf 2 (by omega)
      have w1 : IntKind.u8.wrap (f 1 + 256 * f 2) = f 1 := by rw [IntKind.wrap_u8]; omega
      have w2 : IntKind.u8.wrap ((f 1 + 256 * f 2).fdiv 256) = f 2 := by rw [fdiv256, IntKind.wrap_u8]; omega
      have w3 : 0 ≤ f 1 + 256 * f 2 ∧ f 1 + 256 * f 2 ≤ 65535 := by omega
      exact LCalls_trust lok 20000 _ get6 (by kernel_rfl) (b6R11 op n m f) (by simp only [trusted, rdP, rdR, gen_n, lst_n, Nat.zero_add, Nat.sub_zero, List.drop_zero, LO.cs, List.take_succ_cons, List.take_zero, j1, j2, j3, gen_at', gen_ints', isK8, intV_int, all_true, h1, hn0, hn1, hm, hG, fd, e1, q1, q2, q3, q4, r1, r2, a0i, w1, w2, w3.1, w3.2]; simp [eqU, lst_at, List.range_succ, intV_int, Nat.ble_eq, h1, hn0, hn1, hm, hG, fd, e1, q1, q2, q3, q4, r1, r2, a0i, w1, w2, w3.1, w3.2] <;> omega)
  · by_cases z : n = 0
    · have jg : rdG (1 + m) (jn [op] f) = true := rdG_ok _ _ (by
        intro e he; unfold jn; rcases e with _ | _ | _ | e <;> simp <;> first | exact hb | exact u1 | exact u2 | exact hf _ (by omega))
      obtain ⟨k1, k2, k3, k4⟩ := rd_ok (1 + m) (jn [op] f) 1 (by simpa [jn] using e1) (by omega) (by omega)
      have k2' : rdO (1 + m) (jn [op] f) = op := k2
      have k4' : rdN (1 + m) (jn [op] f) = n := by rw [k4]; simp [jn]; omega
      rcases rest with r | ⟨r1, r2⟩ | ⟨r1, r2⟩ | ⟨r1, r2⟩
      · obtain ⟨q1, q2⟩ := rd_no m f r
        exact LCalls_trust lok 20000 _ get6 (by kernel_rfl) (b6R15 op n m f) (by simp only [trusted, rdP, rdR, gen_n, lst_n, Nat.zero_add, Nat.sub_zero, List.drop_zero, LO.cs, List.take_succ_cons, List.take_zero, j1, j2, j3, gen_at', gen_ints', isK8, intV_int, all_true, h1, hn0, hn1, hm, hG, fd, e1, z, jg, k1, k2', k3, k4', q1, q2]; simp [eqU, lst_at, List.range_succ, intV_int, Nat.ble_eq, h1, hn0, hn1, hm, hG, fd, e1, z, jg, k1, k2', k3, k4', q1, q2] <;> omega)
      · obtain ⟨q1, q2, q3, q4⟩ := rd_ok m f 1 r1 (by omega) r2
        simp at q4
        have a0 := hf 0 (by omega)
        have a0i := (inb_iff (f 0)).2 a0
        exact LCalls_trust lok 20000 _ get6 (by kernel_rfl) (b6R18 op n m f) (by simp only [trusted, rdP, rdR, gen_n, lst_n, Nat.zero_add, Nat.sub_zero, List.drop_zero, LO.cs, List.take_succ_cons, List.take_zero, j1, j2, j3, gen_at', gen_ints', isK8, intV_int, all_true, h1, hn0, hn1, hm, hG, fd, e1, z, jg, k1, k2', k3, k4', q1, q2, q3, q4, r1, r2, a0i]; simp [eqU, lst_at, List.range_succ, intV_int, Nat.ble_eq, h1, hn0, hn1, hm, hG, fd, e1, z, jg, k1, k2', k3, k4', q1, q2, q3, q4, r1, r2, a0i] <;> omega)
      · obtain ⟨q1, q2, q3, q4⟩ := rd_ok m f 2 r1 (by omega) r2
        simp at q4
        have a0 := hf 0 (by omega)
        have a0i := (inb_iff (f 0)).2 a0
        have a1 := hf 1 (by omega)
        have w1 := u8_id (f 1) a1.1 a1.2
        exact LCalls_trust lok 20000 _ get6 (by kernel_rfl) (b6R22 op n m f) (by simp only [trusted, rdP, rdR, gen_n, lst_n, Nat.zero_add, Nat.sub_zero, List.drop_zero, LO.cs, List.take_succ_cons, List.take_zero, j1, j2, j3, gen_at', gen_ints', isK8, intV_int, all_true, h1, hn0, hn1, hm, hG, fd, e1, z, jg, k1, k2', k3, k4', q1, q2, q3, q4, r1, r2, a0i, w1, a1.1, a1.2]; simp [eqU, lst_at, List.range_succ, intV_int, Nat.ble_eq, h1, hn0, hn1, hm, hG, fd, e1, z, jg, k1, k2', k3, k4', q1, q2, q3, q4, r1, r2, a0i, w1, a1.1, a1.2] <;> omega)
      · obtain ⟨q1, q2, q3, q4⟩ := rd_ok m f 3 r1 (by omega) r2
        simp at q4
        have a0 := hf 0 (by omega)
        have a0i := (inb_iff (f 0)).2 a0
        have a1 := hf 1 (by omega)
        have a2 := hf 2 (by omega)
        have w1 : IntKind.u8.wrap (f 1 + 256 * f 2) = f 1 := by rw [IntKind.wrap_u8]; omega
        have w2 : IntKind.u8.wrap ((f 1 + 256 * f 2).fdiv 256) = f 2 := by rw [fdiv256, IntKind.wrap_u8]; omega
        have w3 : 0 ≤ f 1 + 256 * f 2 ∧ f 1 + 256 * f 2 ≤ 65535 := by omega
        exact LCalls_trust lok 20000 _ get6 (by kernel_rfl) (b6R26 op n m f) (by simp only [trusted, rdP, rdR, gen_n, lst_n, Nat.zero_add, Nat.sub_zero, List.drop_zero, LO.cs, List.take_succ_cons, List.take_zero, j1, j2, j3, gen_at', gen_ints', isK8, intV_int, all_true, h1, hn0, hn1, hm, hG, fd, e1, z, jg, k1, k2', k3, k4', q1, q2, q3, q4, r1, r2, a0i, w1, w2, w3.1, w3.2]; simp [eqU, lst_at, List.range_succ, intV_int, Nat.ble_eq, h1, hn0, hn1, hm, hG, fd, e1, z, jg, k1, k2', k3, k4', q1, q2, q3, q4, r1, r2, a0i, w1, w2, w3.1, w3.2] <;> omega)
    · rcases rest with r | ⟨r1, r2⟩ | ⟨r1, r2⟩ | ⟨r1, r2⟩
      · obtain ⟨q1, q2⟩ := rd_no m f r
        exact LCalls_trust lok 20000 _ get6 (by kernel_rfl) (b6R32 op n m f) (by simp only [trusted, rdP, rdR, gen_n, lst_n, Nat.zero_add, Nat.sub_zero, List.drop_zero, LO.cs, List.take_succ_cons, List.take_zero, j1, j2, j3, gen_at', gen_ints', isK8, intV_int, all_true, h1, hn0, hn1, hm, hG, fd, e1, z, q1, q2]; simp [eqU, lst_at, List.range_succ, intV_int, Nat.ble_eq, h1, hn0, hn1, hm, hG, fd, e1, z, q1, q2] <;> omega)
      · obtain ⟨q1, q2, q3, q4⟩ := rd_ok m f 1 r1 (by omega) r2
        simp at q4
        have a0 := hf 0 (by omega)
        have a0i := (inb_iff (f 0)).2 a0
        exact LCalls_trust lok 20000 _ get6 (by kernel_rfl) (b6R35 op n m f) (by simp only [trusted, rdP, rdR, gen_n, lst_n, Nat.zero_add, Nat.sub_zero, List.drop_zero, LO.cs, List.take_succ_cons, List.take_zero, j1, j2, j3, gen_at', gen_ints', isK8, intV_int, all_true, h1, hn0, hn1, hm, hG, fd, e1, z, q1, q2, q3, q4, r1, r2, a0i]; simp [eqU, lst_at, List.range_succ, intV_int, Nat.ble_eq, h1, hn0, hn1, hm, hG, fd, e1, z, q1, q2, q3, q4, r1, r2, a0i] <;> omega)
      · obtain ⟨q1, q2, q3, q4⟩ := rd_ok m f 2 r1 (by omega) r2
        simp at q4
        have a0 := hf 0 (by omega)
        have a0i := (inb_iff (f 0)).2 a0
        have a1 := hf 1 (by omega)
        have w1 := u8_id (f 1) a1.1 a1.2
        exact LCalls_trust lok 20000 _ get6 (by kernel_rfl) (b6R39 op n m f) (by simp only [trusted, rdP, rdR, gen_n, lst_n, Nat.zero_add, Nat.sub_zero, List.drop_zero, LO.cs, List.take_succ_cons, List.take_zero, j1, j2, j3, gen_at', gen_ints', isK8, intV_int, all_true, h1, hn0, hn1, hm, hG, fd, e1, z, q1, q2, q3, q4, r1, r2, a0i, w1, a1.1, a1.2]; simp [eqU, lst_at, List.range_succ, intV_int, Nat.ble_eq, h1, hn0, hn1, hm, hG, fd, e1, z, q1, q2, q3, q4, r1, r2, a0i, w1, a1.1, a1.2] <;> omega)
      · obtain ⟨q1, q2, q3, q4⟩ := rd_ok m f 3 r1 (by omega) r2
        simp at q4
        have a0 := hf 0 (by omega)
        have a0i := (inb_iff (f 0)).2 a0
        have a1 := hf 1 (by omega)
        have a2 := hf 2 (by omega)
        have w1 : IntKind.u8.wrap (f 1 + 256 * f 2) = f 1 := by rw [IntKind.wrap_u8]; omega
        have w2 : IntKind.u8.wrap ((f 1 + 256 * f 2).fdiv 256) = f 2 := by rw [fdiv256, IntKind.wrap_u8]; omega
        have w3 : 0 ≤ f 1 + 256 * f 2 ∧ f 1 + 256 * f 2 ≤ 65535 := by omega
        exact LCalls_trust lok 20000 _ get6 (by kernel_rfl) (b6R43 op n m f) (by simp only [trusted, rdP, rdR, gen_n, lst_n, Nat.zero_add, Nat.sub_zero, List.drop_zero, LO.cs, List.take_succ_cons, List.take_zero, j1, j2, j3, gen_at', gen_ints', isK8, intV_int, all_true, h1, hn0, hn1, hm, hG, fd, e1, z, q1, q2, q3, q4, r1, r2, a0i, w1, w2, w3.1, w3.2]; simp [eqU, lst_at, List.range_succ, intV_int, Nat.ble_eq, h1, hn0, hn1, hm, hG, fd, e1, z, q1, q2, q3, q4, r1, r2, a0i, w1, w2, w3.1, w3.2] <;> omega)
  · by_cases z : n ≤ 255
    · have jg : rdG (2 + m) (jn [op, IntKind.u8.wrap n] f) = true := rdG_ok _ _ (by
        intro e he; unfold jn; rcases e with _ | _ | _ | e <;> simp <;> first | exact hb | exact u1 | exact u2 | exact hf _ (by omega))
      obtain ⟨k1, k2, k3, k4⟩ := rd_ok (2 + m) (jn [op, IntKind.u8.wrap n] f) 2 (by simpa [jn] using e1) (by omega) (by omega)
      have k2' : rdO (2 + m) (jn [op, IntKind.u8.wrap n] f) = op := k2
      have k4' : rdN (2 + m) (jn [op, IntKind.u8.wrap n] f) = n := by rw [k4]; simp [jn]; rw [IntKind.wrap_u8]; omega
      rcases rest with r | ⟨r1, r2⟩ | ⟨r1, r2⟩ | ⟨r1, r2⟩
      · obtain ⟨q1, q2⟩ := rd_no m f r
        exact LCalls_trust lok 20000 _ get6 (by kernel_rfl) (b6R47 op n m f) (by simp only [trusted, rdP, rdR, gen_n, lst_n, Nat.zero_add, Nat.sub_zero, List.drop_zero, LO.cs, List.take_succ_cons, List.take_zero, j1, j2, j3, gen_at', gen_ints', isK8, intV_int, all_true, h1, hn0, hn1, hm, hG, fd, e1, z, jg, k1, k2', k3, k4', q1, q2]; simp [eqU, lst_at, List.range_succ, intV_int, Nat.ble_eq, h1, hn0, hn1, hm, hG, fd, e1, z, jg, k1, k2', k3, k4', q1, q2] <;> omega)
      · obtain ⟨q1, q2, q3, q4⟩ := rd_ok m f 1 r1 (by omega) r2
        simp at q4
        have a0 := hf 0 (by omega)
        have a0i := (inb_iff (f 0)).2 a0
        exact LCalls_trust lok 20000 _ get6 (by kernel_rfl) (b6R50 op n m f) (by simp only [trusted, rdP, rdR, gen_n, lst_n, Nat.zero_add, Nat.sub_zero, List.drop_zero, LO.cs, List.take_succ_cons, List.take_zero, j1, j2, j3, gen_at', gen_ints', isK8, intV_int, all_true, h1, hn0, hn1, hm, hG, fd, e1, z, jg, k1, k2', k3, k4', q1, q2, q3, q4, r1, r2, a0i]; simp [eqU, lst_at, List.range_succ, intV_int, Nat.ble_eq, h1, hn0, hn1, hm, hG, fd, e1, z, jg, k1, k2', k3, k4', q1, q2, q3, q4, r1, r2, a0i] <;> omega)
      · obtain ⟨q1, q2, q3, q4⟩ := rd_ok m f 2 r1 (by omega) r2
        simp at q4
        have a0 := hf 0 (by omega)
        have a0i := (inb_iff (f 0)).2 a0
        have a1 := hf 1 (by omega)
        have w1 := u8_id (f 1) a1.1 a1.2
        exact LCalls_trust lok 20000 _ get6 (by kernel_rfl) (b6R54 op n m f) (by simp only [trusted, rdP, rdR, gen_n, lst_n, Nat.zero_add, Nat.sub_zero, List.drop_zero, LO.cs, List.take_succ_cons, List.take_zero, j1, j2, j3, gen_at', gen_ints', isK8, intV_int, all_true, h1, hn0, hn1, hm, hG, fd, e1, z, jg, k1, k2', k3, k4', q1, q2, q3, q4, r1, r2, a0i, w1, a1.1, a1.2]; simp [eqU, lst_at, List.range_succ, intV_int, Nat.ble_eq, h1, hn0, hn1, hm, hG, fd, e1, z, jg, k1, k2', k3, k4', q1, q2, q3, q4, r1, r2, a0i, w1, a1.1, a1.2] <;> omega)
      · obtain ⟨q1, q2, q3, q4⟩ := rd_ok m f 3 r1 (by omega) r2
        simp at q4
        have a0 := hf 0 (by omega)
        have a0i := (inb_iff (f 0)).2 a0
        have a1 := hf 1 (by omega)
        have a2 := hf 2 (by omega)
        have w1 : IntKind.u8.wrap (f 1 + 256 * f 2) = f 1 := by rw [IntKind.wrap_u8]; omega
        have w2 : IntKind.u8.wrap ((f 1 + 256 * f 2).fdiv 256) = f 2 := by rw [fdiv256, IntKind.wrap_u8]; omega
        have w3 : 0 ≤ f 1 + 256 * f 2 ∧ f 1 + 256 * f 2 ≤ 65535 := by omega
        exact LCalls_trust lok 20000 _ get6 (by kernel_rfl) (b6R58 op n m f) (by simp only [trusted, rdP, rdR, gen_n, lst_n, Nat.zero_add, Nat.sub_zero, List.drop_zero, LO.cs, List.take_succ_cons, List.take_zero, j1, j2, j3, gen_at', gen_ints', isK8, intV_int, all_true, h1, hn0, hn1, hm, hG, fd, e1, z, jg, k1, k2', k3, k4', q1, q2, q3, q4, r1, r2, a0i, w1, w2, w3.1, w3.2]; simp [eqU, lst_at, List.range_succ, intV_int, Nat.ble_eq, h1, hn0, hn1, hm, hG, fd, e1, z, jg, k1, k2', k3, k4', q1, q2, q3, q4, r1, r2, a0i, w1, w2, w3.1, w3.2] <;> omega)
    · rcases rest with r | ⟨r1, r2⟩ | ⟨r1, r2⟩ | ⟨r1, r2⟩
      · obtain ⟨q1, q2⟩ := rd_no m f r
        exact LCalls_trust lok 20000 _ get6 (by kernel_rfl) (b6R64 op n m f) (by simp only [trusted, rdP, rdR, gen_n, lst_n, Nat.zero_add, Nat.sub_zero, List.drop_zero, LO.cs, List.take_succ_cons, List.take_zero, j1, j2, j3, gen_at', gen_ints', isK8, intV_int, all_true, h1, hn0, hn1, hm, hG, fd, e1, z, q1, q2]; simp [eqU, lst_at, List.range_succ, intV_int, Nat.ble_eq, h1, hn0, hn1, hm, hG, fd, e1, z, q1, q2] <;> omega)
      · obtain ⟨q1, q2, q3, q4⟩ := rd_ok m f 1 r1 (by omega) r2
        simp at q4
        have a0 := hf 0 (by omega)
        have a0i := (inb_iff (f 0)).2 a0
        exact LCalls_trust lok 20000 _ get6 (by kernel_rfl) (b6R67 op n m f) (by simp only [trusted, rdP, rdR, gen_n, lst_n, Nat.zero_add, Nat.sub_zero, List.drop_zero, LO.cs, List.take_succ_cons, List.take_zero, j1, j2, j3, gen_at', gen_ints', isK8, intV_int, all_true, h1, hn0, hn1, hm, hG, fd, e1, z, q1, q2, q3, q4, r1, r2, a0i]; simp [eqU, lst_at, List.range_succ, intV_int, Nat.ble_eq, h1, hn0, hn1, hm, hG, fd, e1, z, q1, q2, q3, q4, r1, r2, a0i] <;> omega)
      · obtain ⟨q1, q2, q3, q4⟩ := rd_ok m f 2 r1 (by omega) r2
        simp at q4
        have a0 := hf 0 (by omega)
        have a0i := (inb_iff (f 0)).2 a0
        have a1 := hf 1 (by omega)
        have w1 := u8_id (f 1) a1.1 a1.2
        exact LCalls_trust lok 20000 _ get6 (by kernel_rfl) (b6R71 op n m f) (by simp only [trusted, rdP, rdR, gen_n, lst_n, Nat.zero_add, Nat.sub_zero, List.drop_zero, LO.cs, List.take_succ_cons, List.take_zero, j1, j2, j3, gen_at', gen_ints', isK8, intV_int, all_true, h1, hn0, hn1, hm, hG, fd, e1, z, q1, q2, q3, q4, r1, r2, a0i, w1, a1.1, a1.2]; simp [eqU, lst_at, List.range_succ, intV_int, Nat.ble_eq, h1, hn0, hn1, hm, hG, fd, e1, z, q1, q2, q3, q4, r1, r2, a0i, w1, a1.1, a1.2] <;> omega)
      · obtain ⟨q1, q2, q3, q4⟩ := rd_ok m f 3 r1 (by omega) r2
        simp at q4
        have a0 := hf 0 (by omega)
        have a0i := (inb_iff (f 0)).2 a0
        have a1 := hf 1 (by omega)
        have a2 := hf 2 (by omega)
        have w1 : IntKind.u8.wrap (f 1 + 256 * f 2) = f 1 := by rw [IntKind.wrap_u8]; omega
        have w2 : IntKind.u8.wrap ((f 1 + 256 * f 2).fdiv 256) = f 2 := by rw [fdiv256, IntKind.wrap_u8]; omega
        have w3 : 0 ≤ f 1 + 256 * f 2 ∧ f 1 + 256 * f 2 ≤ 65535 := by omega
        exact LCalls_trust lok 20000 _ get6 (by kernel_rfl) (b6R75 op n m f) (by simp only [trusted, rdP, rdR, gen_n, lst_n, Nat.zero_add, Nat.sub_zero, List.drop_zero, LO.cs, List.take_succ_cons, List.take_zero, j1, j2, j3, gen_at', gen_ints', isK8, intV_int, all_true, h1, hn0, hn1, hm, hG, fd, e1, z, q1, q2, q3, q4, r1, r2, a0i, w1, w2, w3.1, w3.2]; simp [eqU, lst_at, List.range_succ, intV_int, Nat.ble_eq, h1, hn0, hn1, hm, hG, fd, e1, z, q1, q2, q3, q4, r1, r2, a0i, w1, w2, w3.1, w3.2] <;> omega)
  · have jg : rdG (3 + m) (jn [op, IntKind.u8.wrap n, IntKind.u8.wrap (n / 256)] f) = true := rdG_ok _ _ (by
      intro e he; unfold jn; rcases e with _ | _ | _ | e <;> simp <;> first | exact hb | exact u1 | exact u2 | exact hf _ (by omega))
    obtain ⟨k1, k2, k3, k4⟩ := rd_ok (3 + m) (jn [op, IntKind.u8.wrap n, IntKind.u8.wrap (n / 256)] f) 3 (by simpa [jn] using e1) (by omega) (by omega)
    have k2' : rdO (3 + m) (jn [op, IntKind.u8.wrap n, IntKind.u8.wrap (n / 256)] f) = op := k2
    have k4' : rdN (3 + m) (jn [op, IntKind.u8.wrap n, IntKind.u8.wrap (n / 256)] f) = n := by rw [k4]; simp [jn]; exact u3
    rcases rest with r | ⟨r1, r2⟩ | ⟨r1, r2⟩ | ⟨r1, r2⟩
    · obtain ⟨q1, q2⟩ := rd_no m f r
      exact LCalls_trust lok 20000 _ get6 (by kernel_rfl) (b6R79 op n m f) (by simp only [trusted, rdP, rdR, gen_n, lst_n, Nat.zero_add, Nat.sub_zero, List.drop_zero, LO.cs, List.take_succ_cons, List.take_zero, j1, j2, j3, gen_at', gen_ints', isK8, intV_int, all_true, h1, hn0, hn1, hm, hG, fd, e1, jg, k1, k2', k3, k4', q1, q2]; simp [eqU, lst_at, List.range_succ, intV_int, Nat.ble_eq, h1, hn0, hn1, hm, hG, fd, e1, jg, k1, k2', k3, k4', q1, q2] <;> omega)
    · obtain ⟨q1, q2, q3, q4⟩ := rd_ok m f 1 r1 (by omega) r2
      simp at q4
      have a0 := hf 0 (by omega)
      have a0i := (inb_iff (f 0)).2 a0
      exact LCalls_trust lok 20000 _ get6 (by kernel_rfl) (b6R82 op n m f) (by simp only [trusted, rdP, rdR, gen_n, lst_n, Nat.zero_add, Nat.sub_zero, List.drop_zero, LO.cs, List.take_succ_cons, List.take_zero, j1, j2, j3, gen_at', gen_ints', isK8, intV_int, all_true, h1, hn0, hn1, hm, hG, fd, e1, jg, k1, k2', k3, k4', q1, q2, q3, q4, r1, r2, a0i]; simp [eqU, lst_at, List.range_succ, intV_int, Nat.ble_eq, h1, hn0, hn1, hm, hG, fd, e1, jg, k1, k2', k3, k4', q1, q2, q3, q4, r1, r2, a0i] <;> omega)
    · obtain ⟨q1, q2, q3, q4⟩ := rd_ok m f 2 r1 (by omega) r2
      simp at q4
      have a0 := hf 0 (by omega)
      have a0i := (inb_iff (f 0)).2 a0
      have a1 := hf 1 (by omega)
      have w1 := u8_id (f 1) a1.1 a1.2
      exact LCalls_trust lok 20000 _ get6 (by kernel_rfl) (b6R86 op n m f) (by simp only [trusted, rdP, rdR, gen_n, lst_n, Nat.zero_add, Nat.sub_zero, List.drop_zero, LO.cs, List.take_succ_cons, List.take_zero, j1, j2, j3, gen_at', gen_ints', isK8, intV_int, all_true, h1, hn0, hn1, hm, hG, fd, e1, jg, k1, k2', k3, k4', q1, q2, q3, q4, r1, r2, a0i, w1, a1.1, a1.2]; simp [eqU, lst_at, List.range_succ, intV_int, Nat.ble_eq, h1, hn0, hn1, hm, hG, fd, e1, jg, k1, k2', k3, k4', q1, q2, q3, q4, r1, r2, a0i, w1, a1.1, a1.2] <;> omega)
    · obtain ⟨q1, q2, q3, q4⟩ := rd_ok m f 3 r1 (by omega) r2
      simp at q4
      have a0 := hf 0 (by omega)
      have a0i := (inb_iff (f 0)).2 a0
      have a1 := hf 1 (by omega)
      have a2 := hf 2 (by omega)
      have w1 : IntKind.u8.wrap (f 1 + 256 * f 2) = f 1 := by rw [IntKind.wrap_u8]; omega
      have w2 : IntKind.u8.wrap ((f 1 + 256 * f 2).fdiv 256) = f 2 := by rw [fdiv256, IntKind.wrap_u8]; omega
      have w3 : 0 ≤ f 1 + 256 * f 2 ∧ f 1 + 256 * f 2 ≤ 65535 := by omega
      exact LCalls_trust lok 20000 _ get6 (by kernel_rfl) (b6R90 op n m f) (by simp only [trusted, rdP, rdR, gen_n, lst_n, Nat.zero_add, Nat.sub_zero, List.drop_zero, LO.cs, List.take_succ_cons, List.take_zero, j1, j2, j3, gen_at', gen_ints', isK8, intV_int, all_true, h1, hn0, hn1, hm, hG, fd, e1, jg, k1, k2', k3, k4', q1, q2, q3, q4, r1, r2, a0i, w1, w2, w3.1, w3.2]; simp [eqU, lst_at, List.range_succ, intV_int, Nat.ble_eq, h1, hn0, hn1, hm, hG, fd, e1, jg, k1, k2', k3, k4', q1, q2, q3, q4, r1, r2, a0i, w1, w2, w3.1, w3.2] <;> omega)
theorem b6_nil (op n : Int) (h1 : inb op = true) (hn0 : 0 ≤ n) (hn1 : n ≤ 65535) : LCalls Try.prog 6 [.int .u8 op, .int .u16 n, .slice none 0 0] H0 (fun u _ => u = .bool true) := by
  have hb := (inb_iff op).1 h1
  have aw := and255w n hn0 hn1
  have fd := fdiv256 n
  have u1 : 0 ≤ IntKind.u8.wrap n ∧ IntKind.u8.wrap n ≤ 255 := by rw [IntKind.wrap_u8]; omega
  have u2 : 0 ≤ IntKind.u8.wrap (n / 256) ∧ IntKind.u8.wrap (n / 256) ≤ 255 := by rw [IntKind.wrap_u8]; omega
  have u3 : IntKind.u8.wrap n + 256 * IntKind.u8.wrap (n / 256) = n := by rw [IntKind.wrap_u8, IntKind.wrap_u8]; omega
  have i1 := (inb_iff _).2 u1
  have i2 := (inb_iff _).2 u2
  rcases size_cases op hb.1 hb.2 with e1 | e1 | e1 | e1
  · exact LCalls_trust lok 20000 _ get6 (by kernel_rfl) (b6nR0 op n) (by simp [trusted, rdP, rdG, rdK, rdO, rdS, rdN, rdF, show Nat.beq 1 0 = false from rfl, show Nat.beq 2 0 = false from rfl, show Nat.beq 3 0 = false from rfl, show Nat.blt 1 1 = false from rfl, show Nat.blt 1 2 = true from rfl, show Nat.blt 1 3 = true from rfl, show Nat.blt 2 1 = false from rfl, show Nat.blt 2 2 = false from rfl, show Nat.blt 2 3 = true from rfl, Rw.ints, isK8, gen_n, lst_n, LO.cs, lst_at, intV_int, h1, hn0, hn1, fd, i1, i2, u3, e1, ] <;> omega)
  · by_cases z : n = 0
    · exact LCalls_trust lok 20000 _ get6 (by kernel_rfl) (b6nR2 op n) (by simp [trusted, rdP, rdG, rdK, rdO, rdS, rdN, rdF, show Nat.beq 1 0 = false from rfl, show Nat.beq 2 0 = false from rfl, show Nat.beq 3 0 = false from rfl, show Nat.blt 1 1 = false from rfl, show Nat.blt 1 2 = true from rfl, show Nat.blt 1 3 = true from rfl, show Nat.blt 2 1 = false from rfl, show Nat.blt 2 2 = false from rfl, show Nat.blt 2 3 = true from rfl, Rw.ints, isK8, gen_n, lst_n, LO.cs, lst_at, intV_int, h1, hn0, hn1, fd, i1, i2, u3, e1, z] <;> omega)
    · exact LCalls_trust lok 20000 _ get6 (by kernel_rfl) (b6nR6 op n) (by simp [trusted, rdP, rdG, rdK, rdO, rdS, rdN, rdF, show Nat.beq 1 0 = false from rfl, show Nat.beq 2 0 = false from rfl, show Nat.beq 3 0 = false from rfl, show Nat.blt 1 1 = false from rfl, show Nat.blt 1 2 = true from rfl, show Nat.blt 1 3 = true from rfl, show Nat.blt 2 1 = false from rfl, show Nat.blt 2 2 = false from rfl, show Nat.blt 2 3 = true from rfl, Rw.ints, isK8, gen_n, lst_n, LO.cs, lst_at, intV_int, h1, hn0, hn1, fd, i1, i2, u3, e1, z] <;> omega)
  · by_cases z : n ≤ 255
    · exact LCalls_trust lok 20000 _ get6 (by kernel_rfl) (b6nR8 op n) (by simp [trusted, rdP, rdG, rdK, rdO, rdS, rdN, rdF, show Nat.beq 1 0 = false from rfl, show Nat.beq 2 0 = false from rfl, show Nat.beq 3 0 = false from rfl, show Nat.blt 1 1 = false from rfl, show Nat.blt 1 2 = true from rfl, show Nat.blt 1 3 = true from rfl, show Nat.blt 2 1 = false from rfl, show Nat.blt 2 2 = false from rfl, show Nat.blt 2 3 = true from rfl, Rw.ints, isK8, gen_n, lst_n, LO.cs, lst_at, intV_int, h1, hn0, hn1, fd, i1, i2, u3, e1, u8_id n hn0 z, (inb_iff n).2 ⟨hn0, z⟩, z] <;> omega)
    · exact LCalls_trust lok 20000 _ get6 (by kernel_rfl) (b6nR12 op n) (by simp [trusted, rdP, rdG, rdK, rdO, rdS, rdN, rdF, show Nat.beq 1 0 = false from rfl, show Nat.beq 2 0 = false from rfl, show Nat.beq 3 0 = false from rfl, show Nat.blt 1 1 = false from rfl, show Nat.blt 1 2 = true from rfl, show Nat.blt 1 3 = true from rfl, show Nat.blt 2 1 = false from rfl, show Nat.blt 2 2 = false from rfl, show Nat.blt 2 3 = true from rfl, Rw.ints, isK8, gen_n, lst_n, LO.cs, lst_at, intV_int, h1, hn0, hn1, fd, i1, i2, u3, e1, z] <;> omega)
  · exact LCalls_trust lok 20000 _ get6 (by kernel_rfl) (b6nR14 op n) (by simp [trusted, rdP, rdG, rdK, rdO, rdS, rdN, rdF, show Nat.beq 1 0 = false from rfl, show Nat.beq 2 0 = false from rfl, show Nat.beq 3 0 = false from rfl, show Nat.blt 1 1 = false from rfl, show Nat.blt 1 2 = true from rfl, show Nat.blt 1 3 = true from rfl, show Nat.blt 2 1 = false from rfl, show Nat.blt 2 2 = false from rfl, show Nat.blt 2 3 = true from rfl, Rw.ints, isK8, gen_n, lst_n, LO.cs, lst_at, intV_int, h1, hn0, hn1, fd, i1, i2, u3, e1, ] <;> omega)
theorem b6_walk (W : World) (v0 v1 v2 : Value) (h0 : CkOk W (.int .u8) v0) (h1 : CkOk W (.int .u16) v1) (h2 : CkOk W (.slice [.int .u8]) v2) : Calls Try.prog 6 #[v0, v1, v2] W fun e W' => e = .returned (.bool true) ∧ Below W.heap.size W W' := by
  simp only [CkOk] at h0 h1
  obtain ⟨op, rfl, wo⟩ := h0
  obtain ⟨n, rfl, wn⟩ := h1
  have hn := bounds_u16 wn
  have ho := bounds_u8 wo
  have hi := (inb_iff op).2 ho
  rcases ck_row h2 with rfl | ⟨m, f, p, hr, hf, _⟩
  · exact calls_plain (plainL_VR _ (by simp [plain, plainL])) (fun ρ v' h => plain_eq (by simp [plain]) h) (b6_nil op n hi hn.1 hn.2) W
  · exact calls_row (args := [.int .u8 op, .int .u16 n]) (b6_row op n m f hi hn.1 hn.2 (fun e he => bounds_u8 (hf e he))) (by simp [plain]) (by simp [plain, plainL]) hr
end Go.Proofs.Ytofimkcfenemlaa
