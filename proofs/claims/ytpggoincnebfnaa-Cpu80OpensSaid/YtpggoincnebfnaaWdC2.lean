import Derived.Test.YtpggoincnebfnaaWdC1
namespace Go.Proofs.Ytpggoincnebfnaa
open Go Go.Ly Go.RowKit
set_option linter.unusedVariables false
set_option linter.unusedSimpArgs false
theorem inc27_ok (a : Int) (s z x p c : Bool) (h0 : 0 ≤ a) (h1 : a ≤ 255) : (tok (inc27T0 a s z x p c) && peq (inc27V0 a s z x p c) (incR a c)) = true := by
  cases c
  · exact byte_all (p := fun a => (tok (inc27T0 a false false false false false) && peq (inc27V0 a false false false false false) (incR a false)) = true) (by decide +kernel) a h0 h1
  · exact byte_all (p := fun a => (tok (inc27T0 a false false false false true) && peq (inc27V0 a false false false false true) (incR a true)) = true) (by decide +kernel) a h0 h1
theorem ans27 : Answers Try.prog 47 (conF fun a _ _ _ _ c => incR a c) := by
  intro args g v h hg
  unfold conF at h
  split at h
  · rename_i a s z x p c
    simp only [Option.some.injEq, Prod.mk.injEq] at h
    obtain ⟨rfl, rfl⟩ := h
    rw [inb_iff] at hg
    obtain ⟨h0, h1⟩ := hg
    refine ⟨by simp [plain, plainL], tup_plain _ _ _, fun w => ?_⟩
    have hk := inc27_ok a s z x p c h0 h1
    exact calls_leaf wok 20000 _ get27 (by kernel_rfl) (by simp [plain, plainL]) (tup_plain _ _ _) (inc27R0 a s z x p c) hk w
  · cases h
theorem inc30_ok (a : Int) (s z x p c : Bool) (h0 : 0 ≤ a) (h1 : a ≤ 255) : (tok (inc30T0 a s z x p c) && peq (inc30V0 a s z x p c) (incR a c)) = true := by
  cases c
  · exact byte_all (p := fun a => (tok (inc30T0 a false false false false false) && peq (inc30V0 a false false false false false) (incR a false)) = true) (by decide +kernel) a h0 h1
  · exact byte_all (p := fun a => (tok (inc30T0 a false false false false true) && peq (inc30V0 a false false false false true) (incR a true)) = true) (by decide +kernel) a h0 h1
theorem ans30 : Answers Try.prog 64 (conF fun a _ _ _ _ c => incR a c) := by
  intro args g v h hg
  unfold conF at h
  split at h
  · rename_i a s z x p c
    simp only [Option.some.injEq, Prod.mk.injEq] at h
    obtain ⟨rfl, rfl⟩ := h
    rw [inb_iff] at hg
    obtain ⟨h0, h1⟩ := hg
    refine ⟨by simp [plain, plainL], tup_plain _ _ _, fun w => ?_⟩
    have hk := inc30_ok a s z x p c h0 h1
    exact calls_leaf wok 20000 _ get30 (by kernel_rfl) (by simp [plain, plainL]) (tup_plain _ _ _) (inc30R0 a s z x p c) hk w
  · cases h
theorem dec29_ok (a : Int) (s z x p c : Bool) (h0 : 0 ≤ a) (h1 : a ≤ 255) : (tok (dec29T0 a s z x p c) && peq (dec29V0 a s z x p c) (decR a c)) = true := by
  cases c
  · exact byte_all (p := fun a => (tok (dec29T0 a false false false false false) && peq (dec29V0 a false false false false false) (decR a false)) = true) (by decide +kernel) a h0 h1
  · exact byte_all (p := fun a => (tok (dec29T0 a false false false false true) && peq (dec29V0 a false false false false true) (decR a true)) = true) (by decide +kernel) a h0 h1
theorem ans29 : Answers Try.prog 48 (conF fun a _ _ _ _ c => decR a c) := by
  intro args g v h hg
  unfold conF at h
  split at h
  · rename_i a s z x p c
    simp only [Option.some.injEq, Prod.mk.injEq] at h
    obtain ⟨rfl, rfl⟩ := h
    rw [inb_iff] at hg
    obtain ⟨h0, h1⟩ := hg
    refine ⟨by simp [plain, plainL], tup_plain _ _ _, fun w => ?_⟩
    have hk := dec29_ok a s z x p c h0 h1
    exact calls_leaf wok 20000 _ get29 (by kernel_rfl) (by simp [plain, plainL]) (tup_plain _ _ _) (dec29R0 a s z x p c) hk w
  · cases h
theorem dec31_ok (a : Int) (s z x p c : Bool) (h0 : 0 ≤ a) (h1 : a ≤ 255) : (tok (dec31T0 a s z x p c) && peq (dec31V0 a s z x p c) (decR a c)) = true := by
  cases c
  · exact byte_all (p := fun a => (tok (dec31T0 a false false false false false) && peq (dec31V0 a false false false false false) (decR a false)) = true) (by decide +kernel) a h0 h1
  · exact byte_all (p := fun a => (tok (dec31T0 a false false false false true) && peq (dec31V0 a false false false false true) (decR a true)) = true) (by decide +kernel) a h0 h1
theorem ans31 : Answers Try.prog 65 (conF fun a _ _ _ _ c => decR a c) := by
  intro args g v h hg
  unfold conF at h
  split at h
  · rename_i a s z x p c
    simp only [Option.some.injEq, Prod.mk.injEq] at h
    obtain ⟨rfl, rfl⟩ := h
    rw [inb_iff] at hg
    obtain ⟨h0, h1⟩ := hg
    refine ⟨by simp [plain, plainL], tup_plain _ _ _, fun w => ?_⟩
    have hk := dec31_ok a s z x p c h0 h1
    exact calls_leaf wok 20000 _ get31 (by kernel_rfl) (by simp [plain, plainL]) (tup_plain _ _ _) (dec31R0 a s z x p c) hk w
  · cases h
theorem daa14FF_ok (a : Int) (s : Bool) (z : Bool) (p : Bool) (h0 : 0 ≤ a) (h1 : a ≤ 255) : ((tok (daa14FFT0 a s z p) && peq (daa14FFV0 a s z p) (daaR a false false)) || (tok (daa14FFT1 a s z p) && peq (daa14FFV1 a s z p) (daaR a false false)) || (tok (daa14FFT2 a s z p) && peq (daa14FFV2 a s z p) (daaR a false false)) || (tok (daa14FFT3 a s z p) && peq (daa14FFV3 a s z p) (daaR a false false))) = true := by
  exact byte_all (p := fun a => ((tok (daa14FFT0 a false false false) && peq (daa14FFV0 a false false false) (daaR a false false)) || (tok (daa14FFT1 a false false false) && peq (daa14FFV1 a false false false) (daaR a false false)) || (tok (daa14FFT2 a false false false) && peq (daa14FFV2 a false false false) (daaR a false false)) || (tok (daa14FFT3 a false false false) && peq (daa14FFV3 a false false false) (daaR a false false))) = true) (by decide +kernel) a h0 h1
theorem daa14FT_ok (a : Int) (s : Bool) (z : Bool) (p : Bool) (h0 : 0 ≤ a) (h1 : a ≤ 255) : ((tok (daa14FTT0 a s z p) && peq (daa14FTV0 a s z p) (daaR a false true)) || (tok (daa14FTT1 a s z p) && peq (daa14FTV1 a s z p) (daaR a false true)) || (tok (daa14FTT2 a s z p) && peq (daa14FTV2 a s z p) (daaR a false true)) || (tok (daa14FTT3 a s z p) && peq (daa14FTV3 a s z p) (daaR a false true))) = true := by
  exact byte_all (p := fun a => ((tok (daa14FTT0 a false false false) && peq (daa14FTV0 a false false false) (daaR a false true)) || (tok (daa14FTT1 a false false false) && peq (daa14FTV1 a false false false) (daaR a false true)) || (tok (daa14FTT2 a false false false) && peq (daa14FTV2 a false false false) (daaR a false true)) || (tok (daa14FTT3 a false false false) && peq (daa14FTV3 a false false false) (daaR a false true))) = true) (by decide +kernel) a h0 h1
theorem daa14TF_ok (a : Int) (s : Bool) (z : Bool) (p : Bool) (h0 : 0 ≤ a) (h1 : a ≤ 255) : ((tok (daa14TFT0 a s z p) && peq (daa14TFV0 a s z p) (daaR a true false)) || (tok (daa14TFT1 a s z p) && peq (daa14TFV1 a s z p) (daaR a true false)) || (tok (daa14TFT2 a s z p) && peq (daa14TFV2 a s z p) (daaR a true false)) || (tok (daa14TFT3 a s z p) && peq (daa14TFV3 a s z p) (daaR a true false))) = true := by
  exact byte_all (p := fun a => ((tok (daa14TFT0 a false false false) && peq (daa14TFV0 a false false false) (daaR a true false)) || (tok (daa14TFT1 a false false false) && peq (daa14TFV1 a false false false) (daaR a true false)) || (tok (daa14TFT2 a false false false) && peq (daa14TFV2 a false false false) (daaR a true false)) || (tok (daa14TFT3 a false false false) && peq (daa14TFV3 a false false false) (daaR a true false))) = true) (by decide +kernel) a h0 h1
theorem daa14TT_ok (a : Int) (s : Bool) (z : Bool) (p : Bool) (h0 : 0 ≤ a) (h1 : a ≤ 255) : ((tok (daa14TTT0 a s z p) && peq (daa14TTV0 a s z p) (daaR a true true)) || (tok (daa14TTT1 a s z p) && peq (daa14TTV1 a s z p) (daaR a true true)) || (tok (daa14TTT2 a s z p) && peq (daa14TTV2 a s z p) (daaR a true true)) || (tok (daa14TTT3 a s z p) && peq (daa14TTV3 a s z p) (daaR a true true))) = true := by
  exact byte_all (p := fun a => ((tok (daa14TTT0 a false false false) && peq (daa14TTV0 a false false false) (daaR a true true)) || (tok (daa14TTT1 a false false false) && peq (daa14TTV1 a false false false) (daaR a true true)) || (tok (daa14TTT2 a false false false) && peq (daa14TTV2 a false false false) (daaR a true true)) || (tok (daa14TTT3 a false false false) && peq (daa14TTV3 a false false false) (daaR a true true))) = true) (by decide +kernel) a h0 h1
theorem ans14 : Answers Try.prog 81 (conF fun a _ _ x _ c => daaR a x c) := by
  intro args g v h hg
  unfold conF at h
  split at h
  · rename_i a s z x p c
    simp only [Option.some.injEq, Prod.mk.injEq] at h
    obtain ⟨rfl, rfl⟩ := h
    rw [inb_iff] at hg
    obtain ⟨h0, h1⟩ := hg
    refine ⟨by simp [plain, plainL], tup_plain _ _ _, fun w => ?_⟩
    cases x with
    | false =>
      cases c with
      | false =>
        have hk := daa14FF_ok a s z p h0 h1
        simp only [Bool.or_eq_true] at hk
        rcases hk with ((hk | hk) | hk) | hk
        · exact calls_leaf wok 20000 _ get14 (by kernel_rfl) (by simp [plain, plainL]) (tup_plain _ _ _) (daa14FFR0 a s z p) hk w
        · exact calls_leaf wok 20000 _ get14 (by kernel_rfl) (by simp [plain, plainL]) (tup_plain _ _ _) (daa14FFR1 a s z p) hk w
        · exact calls_leaf wok 20000 _ get14 (by kernel_rfl) (by simp [plain, plainL]) (tup_plain _ _ _) (daa14FFR2 a s z p) hk w
        · exact calls_leaf wok 20000 _ get14 (by kernel_rfl) (by simp [plain, plainL]) (tup_plain _ _ _) (daa14FFR3 a s z p) hk w
      | true =>
        have hk := daa14FT_ok a s z p h0 h1
        simp only [Bool.or_eq_true] at hk
        rcases hk with ((hk | hk) | hk) | hk
        · exact calls_leaf wok 20000 _ get14 (by kernel_rfl) (by simp [plain, plainL]) (tup_plain _ _ _) (daa14FTR0 a s z p) hk w
        · exact calls_leaf wok 20000 _ get14 (by kernel_rfl) (by simp [plain, plainL]) (tup_plain _ _ _) (daa14FTR1 a s z p) hk w
        · exact calls_leaf wok 20000 _ get14 (by kernel_rfl) (by simp [plain, plainL]) (tup_plain _ _ _) (daa14FTR2 a s z p) hk w
        · exact calls_leaf wok 20000 _ get14 (by kernel_rfl) (by simp [plain, plainL]) (tup_plain _ _ _) (daa14FTR3 a s z p) hk w
    | true =>
      cases c with
      | false =>
        have hk := daa14TF_ok a s z p h0 h1
        simp only [Bool.or_eq_true] at hk
        rcases hk with ((hk | hk) | hk) | hk
        · exact calls_leaf wok 20000 _ get14 (by kernel_rfl) (by simp [plain, plainL]) (tup_plain _ _ _) (daa14TFR0 a s z p) hk w
        · exact calls_leaf wok 20000 _ get14 (by kernel_rfl) (by simp [plain, plainL]) (tup_plain _ _ _) (daa14TFR1 a s z p) hk w
        · exact calls_leaf wok 20000 _ get14 (by kernel_rfl) (by simp [plain, plainL]) (tup_plain _ _ _) (daa14TFR2 a s z p) hk w
        · exact calls_leaf wok 20000 _ get14 (by kernel_rfl) (by simp [plain, plainL]) (tup_plain _ _ _) (daa14TFR3 a s z p) hk w
      | true =>
        have hk := daa14TT_ok a s z p h0 h1
        simp only [Bool.or_eq_true] at hk
        rcases hk with ((hk | hk) | hk) | hk
        · exact calls_leaf wok 20000 _ get14 (by kernel_rfl) (by simp [plain, plainL]) (tup_plain _ _ _) (daa14TTR0 a s z p) hk w
        · exact calls_leaf wok 20000 _ get14 (by kernel_rfl) (by simp [plain, plainL]) (tup_plain _ _ _) (daa14TTR1 a s z p) hk w
        · exact calls_leaf wok 20000 _ get14 (by kernel_rfl) (by simp [plain, plainL]) (tup_plain _ _ _) (daa14TTR2 a s z p) hk w
        · exact calls_leaf wok 20000 _ get14 (by kernel_rfl) (by simp [plain, plainL]) (tup_plain _ _ _) (daa14TTR3 a s z p) hk w
  · cases h
theorem daa32FF_ok (a : Int) (s : Bool) (z : Bool) (p : Bool) (h0 : 0 ≤ a) (h1 : a ≤ 255) : ((tok (daa32FFT0 a s z p) && peq (daa32FFV0 a s z p) (daaR a false false)) || (tok (daa32FFT1 a s z p) && peq (daa32FFV1 a s z p) (daaR a false false)) || (tok (daa32FFT2 a s z p) && peq (daa32FFV2 a s z p) (daaR a false false)) || (tok (daa32FFT3 a s z p) && peq (daa32FFV3 a s z p) (daaR a false false))) = true := by
  exact byte_all (p := fun a => ((tok (daa32FFT0 a false false false) && peq (daa32FFV0 a false false false) (daaR a false false)) || (tok (daa32FFT1 a false false false) && peq (daa32FFV1 a false false false) (daaR a false false)) || (tok (daa32FFT2 a false false false) && peq (daa32FFV2 a false false false) (daaR a false false)) || (tok (daa32FFT3 a false false false) && peq (daa32FFV3 a false false false) (daaR a false false))) = true) (by decide +kernel) a h0 h1
theorem daa32FT_ok (a : Int) (s : Bool) (z : Bool) (p : Bool) (h0 : 0 ≤ a) (h1 : a ≤ 255) : ((tok (daa32FTT0 a s z p) && peq (daa32FTV0 a s z p) (daaR a false true)) || (tok (daa32FTT1 a s z p) && peq (daa32FTV1 a s z p) (daaR a false true)) || (tok (daa32FTT2 a s z p) && peq (daa32FTV2 a s z p) (daaR a false true)) || (tok (daa32FTT3 a s z p) && peq (daa32FTV3 a s z p) (daaR a false true))) = true := by
  exact byte_all (p := fun a => ((tok (daa32FTT0 a false false false) && peq (daa32FTV0 a false false false) (daaR a false true)) || (tok (daa32FTT1 a false false false) && peq (daa32FTV1 a false false false) (daaR a false true)) || (tok (daa32FTT2 a false false false) && peq (daa32FTV2 a false false false) (daaR a false true)) || (tok (daa32FTT3 a false false false) && peq (daa32FTV3 a false false false) (daaR a false true))) = true) (by decide +kernel) a h0 h1
theorem daa32TF_ok (a : Int) (s : Bool) (z : Bool) (p : Bool) (h0 : 0 ≤ a) (h1 : a ≤ 255) : ((tok (daa32TFT0 a s z p) && peq (daa32TFV0 a s z p) (daaR a true false)) || (tok (daa32TFT1 a s z p) && peq (daa32TFV1 a s z p) (daaR a true false)) || (tok (daa32TFT2 a s z p) && peq (daa32TFV2 a s z p) (daaR a true false)) || (tok (daa32TFT3 a s z p) && peq (daa32TFV3 a s z p) (daaR a true false))) = true := by
  exact byte_all (p := fun a => ((tok (daa32TFT0 a false false false) && peq (daa32TFV0 a false false false) (daaR a true false)) || (tok (daa32TFT1 a false false false) && peq (daa32TFV1 a false false false) (daaR a true false)) || (tok (daa32TFT2 a false false false) && peq (daa32TFV2 a false false false) (daaR a true false)) || (tok (daa32TFT3 a false false false) && peq (daa32TFV3 a false false false) (daaR a true false))) = true) (by decide +kernel) a h0 h1
theorem daa32TT_ok (a : Int) (s : Bool) (z : Bool) (p : Bool) (h0 : 0 ≤ a) (h1 : a ≤ 255) : ((tok (daa32TTT0 a s z p) && peq (daa32TTV0 a s z p) (daaR a true true)) || (tok (daa32TTT1 a s z p) && peq (daa32TTV1 a s z p) (daaR a true true)) || (tok (daa32TTT2 a s z p) && peq (daa32TTV2 a s z p) (daaR a true true)) || (tok (daa32TTT3 a s z p) && peq (daa32TTV3 a s z p) (daaR a true true))) = true := by
  exact byte_all (p := fun a => ((tok (daa32TTT0 a false false false) && peq (daa32TTV0 a false false false) (daaR a true true)) || (tok (daa32TTT1 a false false false) && peq (daa32TTV1 a false false false) (daaR a true true)) || (tok (daa32TTT2 a false false false) && peq (daa32TTV2 a false false false) (daaR a true true)) || (tok (daa32TTT3 a false false false) && peq (daa32TTV3 a false false false) (daaR a true true))) = true) (by decide +kernel) a h0 h1
theorem ans32 : Answers Try.prog 91 (conF fun a _ _ x _ c => daaR a x c) := by
  intro args g v h hg
  unfold conF at h
  split at h
  · rename_i a s z x p c
    simp only [Option.some.injEq, Prod.mk.injEq] at h
    obtain ⟨rfl, rfl⟩ := h
    rw [inb_iff] at hg
    obtain ⟨h0, h1⟩ := hg
    refine ⟨by simp [plain, plainL], tup_plain _ _ _, fun w => ?_⟩
    cases x with
    | false =>
      cases c with
      | false =>
        have hk := daa32FF_ok a s z p h0 h1
        simp only [Bool.or_eq_true] at hk
        rcases hk with ((hk | hk) | hk) | hk
        · exact calls_leaf wok 20000 _ get32 (by kernel_rfl) (by simp [plain, plainL]) (tup_plain _ _ _) (daa32FFR0 a s z p) hk w
        · exact calls_leaf wok 20000 _ get32 (by kernel_rfl) (by simp [plain, plainL]) (tup_plain _ _ _) (daa32FFR1 a s z p) hk w
        · exact calls_leaf wok 20000 _ get32 (by kernel_rfl) (by simp [plain, plainL]) (tup_plain _ _ _) (daa32FFR2 a s z p) hk w
        · exact calls_leaf wok 20000 _ get32 (by kernel_rfl) (by simp [plain, plainL]) (tup_plain _ _ _) (daa32FFR3 a s z p) hk w
      | true =>
        have hk := daa32FT_ok a s z p h0 h1
        simp only [Bool.or_eq_true] at hk
        rcases hk with ((hk | hk) | hk) | hk
        · exact calls_leaf wok 20000 _ get32 (by kernel_rfl) (by simp [plain, plainL]) (tup_plain _ _ _) (daa32FTR0 a s z p) hk w
        · exact calls_leaf wok 20000 _ get32 (by kernel_rfl) (by simp [plain, plainL]) (tup_plain _ _ _) (daa32FTR1 a s z p) hk w
        · exact calls_leaf wok 20000 _ get32 (by kernel_rfl) (by simp [plain, plainL]) (tup_plain _ _ _) (daa32FTR2 a s z p) hk w
        · exact calls_leaf wok 20000 _ get32 (by kernel_rfl) (by simp [plain, plainL]) (tup_plain _ _ _) (daa32FTR3 a s z p) hk w
    | true =>
      cases c with
      | false =>
        have hk := daa32TF_ok a s z p h0 h1
        simp only [Bool.or_eq_true] at hk
        rcases hk with ((hk | hk) | hk) | hk
        · exact calls_leaf wok 20000 _ get32 (by kernel_rfl) (by simp [plain, plainL]) (tup_plain _ _ _) (daa32TFR0 a s z p) hk w
        · exact calls_leaf wok 20000 _ get32 (by kernel_rfl) (by simp [plain, plainL]) (tup_plain _ _ _) (daa32TFR1 a s z p) hk w
        · exact calls_leaf wok 20000 _ get32 (by kernel_rfl) (by simp [plain, plainL]) (tup_plain _ _ _) (daa32TFR2 a s z p) hk w
        · exact calls_leaf wok 20000 _ get32 (by kernel_rfl) (by simp [plain, plainL]) (tup_plain _ _ _) (daa32TFR3 a s z p) hk w
      | true =>
        have hk := daa32TT_ok a s z p h0 h1
        simp only [Bool.or_eq_true] at hk
        rcases hk with ((hk | hk) | hk) | hk
        · exact calls_leaf wok 20000 _ get32 (by kernel_rfl) (by simp [plain, plainL]) (tup_plain _ _ _) (daa32TTR0 a s z p) hk w
        · exact calls_leaf wok 20000 _ get32 (by kernel_rfl) (by simp [plain, plainL]) (tup_plain _ _ _) (daa32TTR1 a s z p) hk w
        · exact calls_leaf wok 20000 _ get32 (by kernel_rfl) (by simp [plain, plainL]) (tup_plain _ _ _) (daa32TTR2 a s z p) hk w
        · exact calls_leaf wok 20000 _ get32 (by kernel_rfl) (by simp [plain, plainL]) (tup_plain _ _ _) (daa32TTR3 a s z p) hk w
  · cases h
end Go.Proofs.Ytpggoincnebfnaa
