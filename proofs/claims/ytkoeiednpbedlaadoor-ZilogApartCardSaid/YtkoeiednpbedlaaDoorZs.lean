/- Rename, the program's and the document's, as one contract. -/
import Derived.Test.YtkoeiednpbedlaaDoorZs0
import Derived.KernelRfl
namespace Go.Proofs.YtkoeiednpbedlaaDoor
open Go Go.Ly Go.RowKit
set_option linter.unusedVariables false
set_option linter.unusedSimpArgs false
noncomputable def okV (s : ByteArray) : Value := .tuple ⟨[.string s, .int .i64 0]⟩
noncomputable def tooV : Value := .tuple ⟨[.string ⟨#[]⟩, .int .i64 11]⟩
noncomputable def more (s : ByteArray) : ByteArray := strApp s ⟨#[95]⟩
noncomputable def renF (s r : ByteArray) : Value := bif resB 1 r then (bif resB 0 r then okV s else bif decide ((16 : Int) ≤ s.size) then tooV else okV (more s)) else okV s
theorem gR14 : zctxR.fn.get 14 = some Tryd.f14 := by kernel_rfl
noncomputable def rt (s : ByteArray) : ByteArray := dropEnd 95 s
noncomputable def tA (s : ByteArray) : Bool × Bool := (true && Nat.ble s.size 9223372036854775807, true)
theorem ra0 (s : ByteArray) : (Ly.run zctxR 6000 [(0, true), (1, true), (3, true)] (Ly.start Tryd.f14 [.string s] H0)).out? = some ([tA s, ((!resB 1 (rt s)) == false, true), (resB 0 (rt s), true)], okV s) := by kernel_rfl
theorem ra1 (s : ByteArray) : (Ly.run zctxR 6000 [(0, true), (1, true), (3, false), (0, true)] (Ly.start Tryd.f14 [.string s] H0)).out? = some ([tA s, ((!resB 1 (rt s)) == false, true), (resB 0 (rt s), false), (decide ((16 : Int) ≤ s.size), true)], tooV) := by kernel_rfl
theorem ra2 (s : ByteArray) : (Ly.run zctxR 6000 [(0, true), (1, true), (3, false), (0, false), (0, true)] (Ly.start Tryd.f14 [.string s] H0)).out? = some ([tA s, ((!resB 1 (rt s)) == false, true), (resB 0 (rt s), false), (decide ((16 : Int) ≤ s.size), false), (Nat.ble (s.size + 1) 9223372036854775807, true)], okV (more s)) := by kernel_rfl
theorem ra3 (s : ByteArray) : (Ly.run zctxR 6000 [(0, true), (1, false)] (Ly.start Tryd.f14 [.string s] H0)).out? = some ([tA s, ((!resB 1 (rt s)) == false, false)], okV s) := by kernel_rfl
theorem call14 (s : ByteArray) (hs : s.size ≤ 1000) : LCalls Tryd.prog 14 [.string s] H0 (fun u _ => u = renF s (rt s)) := by
  have h0 : trusted [tA s] := ⟨by simp [tA]; omega, trivial⟩
  have h1 : Nat.ble (s.size + 1) 9223372036854775807 = true := by rw [Nat.ble_eq]; omega
  unfold renF
  rcases Bool.eq_false_or_eq_true (resB 1 (rt s)) with e1 | e1
  · rcases Bool.eq_false_or_eq_true (resB 0 (rt s)) with e0 | e0
    · rw [e1, e0]; exact LCalls_trust zctxR_ok 6000 _ gR14 (by kernel_rfl) (ra0 s) ⟨h0.1, by rw [e1]; rfl, e0, trivial⟩
    · rcases Bool.eq_false_or_eq_true (decide ((16 : Int) ≤ s.size)) with e2 | e2
      · rw [e1, e0, e2]; exact LCalls_trust zctxR_ok 6000 _ gR14 (by kernel_rfl) (ra1 s) ⟨h0.1, by rw [e1]; rfl, e0, e2, trivial⟩
      · rw [e1, e0, e2]; exact LCalls_trust zctxR_ok 6000 _ gR14 (by kernel_rfl) (ra2 s) ⟨h0.1, by rw [e1]; rfl, e0, e2, h1, trivial⟩
  · rw [e1]; exact LCalls_trust zctxR_ok 6000 _ gR14 (by kernel_rfl) (ra3 s) ⟨h0.1, by rw [e1]; rfl, trivial⟩
/-! ### the document's: behind its loop -/
noncomputable def ct (s : ByteArray) (n : Int) : ByteArray := strCut s 0 n.toNat
noncomputable def bd (s : ByteArray) (n : Int) : Bool := true && (decide (0 ≤ n) && decide (n ≤ (s.size : Int)))
noncomputable def tX (s : ByteArray) (n : Int) : Nat → List (Bool × Bool)
  | 0 => [(bd s n, true), ((!resB 1 (ct s n)) == false, true), (bd s n, true), (resB 0 (ct s n), true)]
  | 1 => [(bd s n, true), ((!resB 1 (ct s n)) == false, true), (bd s n, true), (resB 0 (ct s n), false), (decide ((16 : Int) ≤ s.size), true)]
  | 2 => [(bd s n, true), ((!resB 1 (ct s n)) == false, true), (bd s n, true), (resB 0 (ct s n), false), (decide ((16 : Int) ≤ s.size), false), (Nat.ble (s.size + 1) 9223372036854775807, true)]
  | _ => [(bd s n, true), ((!resB 1 (ct s n)) == false, false)]
theorem xa0 (s : ByteArray) (n : Int) : (Ly.run zctxR 400 [(0, false), (6, true), (1, true), (2, true), (3, true)] (rnS s n)).out? = some ((decide (0 < n) == true, false) :: tX s n 0, okV s) := by kernel_rfl
theorem xa1 (s : ByteArray) (n : Int) : (Ly.run zctxR 400 [(0, false), (6, true), (1, true), (2, true), (3, false), (0, true)] (rnS s n)).out? = some ((decide (0 < n) == true, false) :: tX s n 1, tooV) := by kernel_rfl
theorem xa2 (s : ByteArray) (n : Int) : (Ly.run zctxR 400 [(0, false), (6, true), (1, true), (2, true), (3, false), (0, false), (0, true)] (rnS s n)).out? = some ((decide (0 < n) == true, false) :: tX s n 2, okV (more s)) := by kernel_rfl
theorem xa3 (s : ByteArray) (n : Int) : (Ly.run zctxR 400 [(0, false), (6, true), (1, false)] (rnS s n)).out? = some ((decide (0 < n) == true, false) :: tX s n 3, okV s) := by kernel_rfl
theorem xb0 (s : ByteArray) (n : Int) : (Ly.run zctxR 400 [(0, true), (3, true), (2, false), (0, true), (1, true), (2, true), (3, true)] (rnS s n)).out? = some ((decide (0 < n) == true, true) :: (inS s n, true) :: (lastB s n, false) :: tX s n 0, okV s) := by kernel_rfl
theorem xb1 (s : ByteArray) (n : Int) : (Ly.run zctxR 400 [(0, true), (3, true), (2, false), (0, true), (1, true), (2, true), (3, false), (0, true)] (rnS s n)).out? = some ((decide (0 < n) == true, true) :: (inS s n, true) :: (lastB s n, false) :: tX s n 1, tooV) := by kernel_rfl
theorem xb2 (s : ByteArray) (n : Int) : (Ly.run zctxR 400 [(0, true), (3, true), (2, false), (0, true), (1, true), (2, true), (3, false), (0, false), (0, true)] (rnS s n)).out? = some ((decide (0 < n) == true, true) :: (inS s n, true) :: (lastB s n, false) :: tX s n 2, okV (more s)) := by kernel_rfl
theorem xb3 (s : ByteArray) (n : Int) : (Ly.run zctxR 400 [(0, true), (3, true), (2, false), (0, true), (1, false)] (rnS s n)).out? = some ((decide (0 < n) == true, true) :: (inS s n, true) :: (lastB s n, false) :: tX s n 3, okV s) := by kernel_rfl
/-- behind the loop, whichever way out -/
theorem rn_end {s : ByteArray} {n : Int} {h : List (Bool × Bool)} {p0 p1 p2 p3 : Path} (hs : s.size ≤ 1000) (hn : 0 ≤ n ∧ n ≤ s.size) (hh : ∀ l, trusted l → trusted (h ++ l))
    (x0 : (Ly.run zctxR 400 p0 (rnS s n)).out? = some (h ++ tX s n 0, okV s)) (x1 : (Ly.run zctxR 400 p1 (rnS s n)).out? = some (h ++ tX s n 1, tooV))
    (x2 : (Ly.run zctxR 400 p2 (rnS s n)).out? = some (h ++ tX s n 2, okV (more s))) (x3 : (Ly.run zctxR 400 p3 (rnS s n)).out? = some (h ++ tX s n 3, okV s)) :
    MWp Tryd.prog (rnS s n) (fun u _ => u = renF s (ct s n)) := by
  have hb : bd s n = true := by simp [bd]; omega
  have h1 : Nat.ble (s.size + 1) 9223372036854775807 = true := by rw [Nat.ble_eq]; omega
  unfold renF
  rcases Bool.eq_false_or_eq_true (resB 1 (ct s n)) with e1 | e1
  · rcases Bool.eq_false_or_eq_true (resB 0 (ct s n)) with e0 | e0
    · rw [e1, e0]; exact MWp.out zctxR_ok 400 _ x0 (hh _ ⟨hb, by rw [e1]; rfl, hb, e0, trivial⟩) (fun _ => rfl)
    · rcases Bool.eq_false_or_eq_true (decide ((16 : Int) ≤ s.size)) with e2 | e2
      · rw [e1, e0, e2]; exact MWp.out zctxR_ok 400 _ x1 (hh _ ⟨hb, by rw [e1]; rfl, hb, e0, e2, trivial⟩) (fun _ => rfl)
      · rw [e1, e0, e2]; exact MWp.out zctxR_ok 400 _ x2 (hh _ ⟨hb, by rw [e1]; rfl, hb, e0, e2, h1, trivial⟩) (fun _ => rfl)
  · rw [e1]; exact MWp.out zctxR_ok 400 _ x3 (hh _ ⟨hb, by rw [e1]; rfl, trivial⟩) (fun _ => rfl)
theorem ct_take (s : ByteArray) (k : Nat) : (ct s (k : Int)).data.toList = s.data.toList.take k := by simp [ct, strCut]
/-- all behind place k are the sign that is cut off -/
def Cut95 (s : ByteArray) (k : Nat) : Prop := ∀ (j : Nat) b, k ≤ j → s.data.toList[j]? = some b → b = 95
theorem rt_ct {s : ByteArray} {k : Nat} (hk : k ≤ s.size) (h1 : Cut95 s k) (h2 : ∀ b, 0 < k → s.data.toList[k - 1]? = some b → b ≠ 95) : ct s (k : Int) = rt s := by
  apply ByteArray.ext
  apply Array.ext'
  rw [ct_take]
  have hl : s.data.toList.length = s.size := (Lib.size_eq s).symm
  exact (Lib.trimRightB_take s.data.toList 95 k (by omega) h1 h2).symm
theorem rn_loop (s : ByteArray) (hs : s.size ≤ 1000) : ∀ (k : Nat), k ≤ s.size → Cut95 s k → MWp Tryd.prog (rnS s (k : Int)) (fun u _ => u = renF s (rt s))
  | 0, hk, hc => by
    rw [← rt_ct hk hc (fun b h => absurd h (by omega))]
    exact rn_end (h := [(decide ((0 : Int) < ((0 : Nat) : Int)) == true, false)]) hs ⟨by omega, by omega⟩ (fun l hl => ⟨by simp, hl⟩) (xa0 s _) (xa1 s _) (xa2 s _) (xa3 s _)
  | k + 1, hk, hc => by
    have hw : IntKind.i64.wrap (((k + 1 : Nat) : Int) - 1) = (k : Int) := by rw [IntKind.wrap_i64]; omega
    have h0 : (decide ((0 : Int) < ((k + 1 : Nat) : Int)) == true) = true := by rw [decide_eq_true (by omega)]; rfl
    have hi : inS s ((k + 1 : Nat) : Int) = true := by unfold inS; rw [hw]; simp; omega
    have hl : s.data.toList.length = s.size := (Lib.size_eq s).symm
    have hlt : k < s.data.toList.length := by omega
    have hget : s.data.toList[k]? = some s.data.toList[k] := List.getElem?_eq_getElem hlt
    have hlb : lastB s ((k + 1 : Nat) : Int) = ((s.data.toList[k].toNat : Int) == 95) := by
      unfold lastB; rw [hw]; simp only [Int.toNat_natCast, List.getD_eq_getElem?_getD, hget, Option.getD_some]
    rcases Bool.eq_false_or_eq_true (lastB s ((k + 1 : Nat) : Int)) with h | h
    · refine MWp.head zctxR_ok _ _ _ _ (rn_I s _) ⟨h0, hi, h, trivial⟩ (fun o ho => by simp at ho) ?_
      rw [hw]
      refine rn_loop s hs k (by omega) fun j b hj hb => ?_
      rcases Nat.lt_or_ge j (k + 1) with h3 | h3
      · have : j = k := by omega
        subst this
        rw [hget] at hb
        simp only [Option.some.injEq] at hb
        subst hb
        rw [hlb] at h
        have h4 : (s.data.toList[j].toNat : Int) = 95 := by simpa using h
        exact UInt8.toNat_inj.1 (by show _ = 95; omega)
      · exact hc j b h3 hb
    · have hne : ∀ b, 0 < k + 1 → s.data.toList[k + 1 - 1]? = some b → b ≠ 95 := fun b _ hb e => by
        subst e
        rw [Nat.add_sub_cancel, hget] at hb
        simp only [Option.some.injEq] at hb
        rw [hlb, hb] at h
        exact absurd h (by decide)
      rw [← rt_ct hk hc hne]
      exact rn_end (h := [(decide ((0 : Int) < ((k + 1 : Nat) : Int)) == true, true), (inS s ((k + 1 : Nat) : Int), true), (lastB s ((k + 1 : Nat) : Int), false)]) hs ⟨by omega, by omega⟩ (fun l hl => ⟨h0, hi, h, hl⟩) (xb0 s _) (xb1 s _) (xb2 s _) (xb3 s _)
theorem call15 (s : ByteArray) (hs : s.size ≤ 1000) : LCalls Tryd.prog 15 [.string s] H0 (fun u _ => u = renF s (rt s)) := by
  refine LCalls_of zctxR_ok gR15 (by kernel_rfl) ?_
  refine MWp.head zctxR_ok _ _ _ _ (rn_0 s) trivial (fun o ho => by simp at ho) ?_
  have hl : s.data.toList.length = s.size := (Lib.size_eq s).symm
  exact rn_loop s hs s.size (Nat.le_refl _) fun j b hj hb => by
    rw [List.getElem?_eq_none (by omega)] at hb; cases hb
/-! ### both as one contract -/
noncomputable def renE (s : ByteArray) : ER := .tst (Nat.ble s.size 1000) (.tst (resB 1 (rt s)) (.tst (resB 0 (rt s)) (.val (okV s)) (.tst (decide ((16 : Int) ≤ s.size)) (.val tooV) (.val (okV (more s))))) (.val (okV s))) .no
noncomputable def renC (H : Heap) (args : List Value) : ER := match args with
  | [.string s] => renE s
  | _ => .no
theorem renF_plain (s r : ByteArray) : plain (renF s r) = true := by
  unfold renF
  cases resB 1 r <;> cases resB 0 r <;> cases decide ((16 : Int) ≤ s.size) <;> simp [okV, tooV, plain, plainL]
theorem ren_con {f : Nat} (hf : ∀ s : ByteArray, s.size ≤ 1000 → LCalls Tryd.prog f [.string s] H0 (fun u _ => u = renF s (rt s))) (args : List Value) (ρ : Ly.Ren) (args' : List Value) (w : World) (H : Heap) (ha : VRL ρ args args') (hr : Rep ρ H w) : ConGood Tryd.prog ρ f args' w (renC H args) := by
  unfold renC
  split
  · rename_i s
    simp only [VRL, VR] at ha
    obtain ⟨_, _, rfl, rfl, rfl⟩ := ha
    haveI := hr.fix.w
    refine ⟨fun hs => ?_, fun _ => trivial⟩
    have key := calls_plain (v := renF s (rt s)) (by simp [VRL, VR]) (fun ρ v' h => plain_eq (renF_plain _ _) h) (hf s (by simpa [Nat.ble_eq] using hs)) w
    have fin : ∀ v, renF s (rt s) = v → ConGood Tryd.prog ρ f [.string s] w (.val v) := fun v hv => by
      subst hv
      exact ⟨_, plain_VR _ (renF_plain _ _), key⟩
    unfold renF at fin
    refine ⟨fun e1 => ⟨fun e0 => fin _ (by rw [e1, e0]; rfl), fun e0 => ⟨fun e2 => fin _ (by rw [e1, e0, e2]; rfl), fun e2 => fin _ (by rw [e1, e0, e2]; rfl)⟩⟩, fun e1 => fin _ (by rw [e1]; rfl)⟩
  · exact trivial
end Go.Proofs.YtkoeiednpbedlaaDoor
