import Derived.Test.YtpggoincnebfnaaWdC1
namespace Go.Proofs.Ytpggoincnebfnaa
open Go Go.Ly Go.RowKit
set_option linter.unusedVariables false
set_option linter.unusedSimpArgs false
theorem turn390F_ok (a : Int) (h0 : 0 ≤ a) (h1 : a ≤ 255) : ((tok (turn390FT0 a) && peq (turn390FV0 a) (turnR 0 a false))) = true := by
  exact byte_all (p := fun a => ((tok (turn390FT0 a) && peq (turn390FV0 a) (turnR 0 a false))) = true) (by decide +kernel) a h0 h1
theorem turn390T_ok (a : Int) (h0 : 0 ≤ a) (h1 : a ≤ 255) : ((tok (turn390TT0 a) && peq (turn390TV0 a) (turnR 0 a true))) = true := by
  exact byte_all (p := fun a => ((tok (turn390TT0 a) && peq (turn390TV0 a) (turnR 0 a true))) = true) (by decide +kernel) a h0 h1
theorem turn391F_ok (a : Int) (h0 : 0 ≤ a) (h1 : a ≤ 255) : ((tok (turn391FT0 a) && peq (turn391FV0 a) (turnR 1 a false))) = true := by
  exact byte_all (p := fun a => ((tok (turn391FT0 a) && peq (turn391FV0 a) (turnR 1 a false))) = true) (by decide +kernel) a h0 h1
theorem turn391T_ok (a : Int) (h0 : 0 ≤ a) (h1 : a ≤ 255) : ((tok (turn391TT0 a) && peq (turn391TV0 a) (turnR 1 a true))) = true := by
  exact byte_all (p := fun a => ((tok (turn391TT0 a) && peq (turn391TV0 a) (turnR 1 a true))) = true) (by decide +kernel) a h0 h1
theorem turn392F_ok (a : Int) (h0 : 0 ≤ a) (h1 : a ≤ 255) : ((tok (turn392FT0 a) && peq (turn392FV0 a) (turnR 2 a false))) = true := by
  exact byte_all (p := fun a => ((tok (turn392FT0 a) && peq (turn392FV0 a) (turnR 2 a false))) = true) (by decide +kernel) a h0 h1
theorem turn392T_ok (a : Int) (h0 : 0 ≤ a) (h1 : a ≤ 255) : ((tok (turn392TT0 a) && peq (turn392TV0 a) (turnR 2 a true))) = true := by
  exact byte_all (p := fun a => ((tok (turn392TT0 a) && peq (turn392TV0 a) (turnR 2 a true))) = true) (by decide +kernel) a h0 h1
theorem turn393F_ok (a : Int) (h0 : 0 ≤ a) (h1 : a ≤ 255) : ((tok (turn393FT0 a) && peq (turn393FV0 a) (turnR 3 a false))) = true := by
  exact byte_all (p := fun a => ((tok (turn393FT0 a) && peq (turn393FV0 a) (turnR 3 a false))) = true) (by decide +kernel) a h0 h1
theorem turn393T_ok (a : Int) (h0 : 0 ≤ a) (h1 : a ≤ 255) : ((tok (turn393TT0 a) && peq (turn393TV0 a) (turnR 3 a true))) = true := by
  exact byte_all (p := fun a => ((tok (turn393TT0 a) && peq (turn393TV0 a) (turnR 3 a true))) = true) (by decide +kernel) a h0 h1
theorem ans39 : Answers Try.prog 82 conT := by
  intro args g v h hg
  unfold conT at h
  split at h
  · rename_i k a c
    simp only [Option.some.injEq, Prod.mk.injEq] at h
    obtain ⟨rfl, rfl⟩ := h
    rw [inb_iff] at hg
    obtain ⟨h0, h1⟩ := hg
    refine ⟨by simp [plain, plainL], turn_plain _ _ _, fun w => ?_⟩
    by_cases hk0 : k = 0
    · subst hk0
      cases c with
      | false =>
        have hk := turn390F_ok a h0 h1
        exact calls_leaf wok 20000 _ get39 (by kernel_rfl) (by simp [plain, plainL]) (turn_plain _ _ _) (turn390FR0 a) hk w
      | true =>
        have hk := turn390T_ok a h0 h1
        exact calls_leaf wok 20000 _ get39 (by kernel_rfl) (by simp [plain, plainL]) (turn_plain _ _ _) (turn390TR0 a) hk w
    by_cases hk1 : k = 1
    · subst hk1
      cases c with
      | false =>
        have hk := turn391F_ok a h0 h1
        exact calls_leaf wok 20000 _ get39 (by kernel_rfl) (by simp [plain, plainL]) (turn_plain _ _ _) (turn391FR0 a) hk w
      | true =>
        have hk := turn391T_ok a h0 h1
        exact calls_leaf wok 20000 _ get39 (by kernel_rfl) (by simp [plain, plainL]) (turn_plain _ _ _) (turn391TR0 a) hk w
    by_cases hk2 : k = 2
    · subst hk2
      cases c with
      | false =>
        have hk := turn392F_ok a h0 h1
        exact calls_leaf wok 20000 _ get39 (by kernel_rfl) (by simp [plain, plainL]) (turn_plain _ _ _) (turn392FR0 a) hk w
      | true =>
        have hk := turn392T_ok a h0 h1
        exact calls_leaf wok 20000 _ get39 (by kernel_rfl) (by simp [plain, plainL]) (turn_plain _ _ _) (turn392TR0 a) hk w
    by_cases hk3 : k = 3
    · subst hk3
      cases c with
      | false =>
        have hk := turn393F_ok a h0 h1
        exact calls_leaf wok 20000 _ get39 (by kernel_rfl) (by simp [plain, plainL]) (turn_plain _ _ _) (turn393FR0 a) hk w
      | true =>
        have hk := turn393T_ok a h0 h1
        exact calls_leaf wok 20000 _ get39 (by kernel_rfl) (by simp [plain, plainL]) (turn_plain _ _ _) (turn393TR0 a) hk w
    have hv : turn39XV6 k a c = turnR k a c := by
      have e0 : (k == 0) = false := by simpa using hk0
      have e1 : (k == 1) = false := by simpa using hk1
      have e2 : (k == 2) = false := by simpa using hk2
      have e3 : (k == 3) = false := by simpa using hk3
      unfold turnR
      rw [e0, e1, e2, e3]
      rfl
    rw [← hv]
    exact calls_trust wok 20000 _ get39 (by kernel_rfl) (by simp [plain, plainL]) (by rw [hv]; exact turn_plain _ _ _) (turn39XR6 k a c) (by simp [turn39XT6, trusted, hk0, hk1, hk2, hk3]) w
  · cases h
theorem turn400F_ok (a : Int) (h0 : 0 ≤ a) (h1 : a ≤ 255) : ((tok (turn400FT0 a) && peq (turn400FV0 a) (turnR 0 a false))) = true := by
  exact byte_all (p := fun a => ((tok (turn400FT0 a) && peq (turn400FV0 a) (turnR 0 a false))) = true) (by decide +kernel) a h0 h1
theorem turn400T_ok (a : Int) (h0 : 0 ≤ a) (h1 : a ≤ 255) : ((tok (turn400TT0 a) && peq (turn400TV0 a) (turnR 0 a true))) = true := by
  exact byte_all (p := fun a => ((tok (turn400TT0 a) && peq (turn400TV0 a) (turnR 0 a true))) = true) (by decide +kernel) a h0 h1
theorem turn401F_ok (a : Int) (h0 : 0 ≤ a) (h1 : a ≤ 255) : ((tok (turn401FT0 a) && peq (turn401FV0 a) (turnR 1 a false))) = true := by
  exact byte_all (p := fun a => ((tok (turn401FT0 a) && peq (turn401FV0 a) (turnR 1 a false))) = true) (by decide +kernel) a h0 h1
theorem turn401T_ok (a : Int) (h0 : 0 ≤ a) (h1 : a ≤ 255) : ((tok (turn401TT0 a) && peq (turn401TV0 a) (turnR 1 a true))) = true := by
  exact byte_all (p := fun a => ((tok (turn401TT0 a) && peq (turn401TV0 a) (turnR 1 a true))) = true) (by decide +kernel) a h0 h1
theorem turn402F_ok (a : Int) (h0 : 0 ≤ a) (h1 : a ≤ 255) : ((tok (turn402FT0 a) && peq (turn402FV0 a) (turnR 2 a false))) = true := by
  exact byte_all (p := fun a => ((tok (turn402FT0 a) && peq (turn402FV0 a) (turnR 2 a false))) = true) (by decide +kernel) a h0 h1
theorem turn402T_ok (a : Int) (h0 : 0 ≤ a) (h1 : a ≤ 255) : ((tok (turn402TT0 a) && peq (turn402TV0 a) (turnR 2 a true))) = true := by
  exact byte_all (p := fun a => ((tok (turn402TT0 a) && peq (turn402TV0 a) (turnR 2 a true))) = true) (by decide +kernel) a h0 h1
theorem turn403F_ok (a : Int) (h0 : 0 ≤ a) (h1 : a ≤ 255) : ((tok (turn403FT0 a) && peq (turn403FV0 a) (turnR 3 a false))) = true := by
  exact byte_all (p := fun a => ((tok (turn403FT0 a) && peq (turn403FV0 a) (turnR 3 a false))) = true) (by decide +kernel) a h0 h1
theorem turn403T_ok (a : Int) (h0 : 0 ≤ a) (h1 : a ≤ 255) : ((tok (turn403TT0 a) && peq (turn403TV0 a) (turnR 3 a true))) = true := by
  exact byte_all (p := fun a => ((tok (turn403TT0 a) && peq (turn403TV0 a) (turnR 3 a true))) = true) (by decide +kernel) a h0 h1
theorem ans40 : Answers Try.prog 92 conT := by
  intro args g v h hg
  unfold conT at h
  split at h
  · rename_i k a c
    simp only [Option.some.injEq, Prod.mk.injEq] at h
    obtain ⟨rfl, rfl⟩ := h
    rw [inb_iff] at hg
    obtain ⟨h0, h1⟩ := hg
    refine ⟨by simp [plain, plainL], turn_plain _ _ _, fun w => ?_⟩
    by_cases hk0 : k = 0
    · subst hk0
      cases c with
      | false =>
        have hk := turn400F_ok a h0 h1
        exact calls_leaf wok 20000 _ get40 (by kernel_rfl) (by simp [plain, plainL]) (turn_plain _ _ _) (turn400FR0 a) hk w
      | true =>
        have hk := turn400T_ok a h0 h1
        exact calls_leaf wok 20000 _ get40 (by kernel_rfl) (by simp [plain, plainL]) (turn_plain _ _ _) (turn400TR0 a) hk w
    by_cases hk1 : k = 1
    · subst hk1
      cases c with
      | false =>
        have hk := turn401F_ok a h0 h1
        exact calls_leaf wok 20000 _ get40 (by kernel_rfl) (by simp [plain, plainL]) (turn_plain _ _ _) (turn401FR0 a) hk w
      | true =>
        have hk := turn401T_ok a h0 h1
        exact calls_leaf wok 20000 _ get40 (by kernel_rfl) (by simp [plain, plainL]) (turn_plain _ _ _) (turn401TR0 a) hk w
    by_cases hk2 : k = 2
    · subst hk2
      cases c with
      | false =>
        have hk := turn402F_ok a h0 h1
        exact calls_leaf wok 20000 _ get40 (by kernel_rfl) (by simp [plain, plainL]) (turn_plain _ _ _) (turn402FR0 a) hk w
      | true =>
        have hk := turn402T_ok a h0 h1
        exact calls_leaf wok 20000 _ get40 (by kernel_rfl) (by simp [plain, plainL]) (turn_plain _ _ _) (turn402TR0 a) hk w
    by_cases hk3 : k = 3
    · subst hk3
      cases c with
      | false =>
        have hk := turn403F_ok a h0 h1
        exact calls_leaf wok 20000 _ get40 (by kernel_rfl) (by simp [plain, plainL]) (turn_plain _ _ _) (turn403FR0 a) hk w
      | true =>
        have hk := turn403T_ok a h0 h1
        exact calls_leaf wok 20000 _ get40 (by kernel_rfl) (by simp [plain, plainL]) (turn_plain _ _ _) (turn403TR0 a) hk w
    have hv : turn40XV6 k a c = turnR k a c := by
      have e0 : (k == 0) = false := by simpa using hk0
      have e1 : (k == 1) = false := by simpa using hk1
      have e2 : (k == 2) = false := by simpa using hk2
      have e3 : (k == 3) = false := by simpa using hk3
      unfold turnR
      rw [e0, e1, e2, e3]
      rfl
    rw [← hv]
    exact calls_trust wok 20000 _ get40 (by kernel_rfl) (by simp [plain, plainL]) (by rw [hv]; exact turn_plain _ _ _) (turn40XR6 k a c) (by simp [turn40XT6, trusted, hk0, hk1, hk2, hk3]) w
  · cases h
theorem of35_ok (a : Int) (h0 : 0 ≤ a) (h1 : a ≤ 255) : ((tok (of35T0 a) && peq (of35V0 a) (ofR a))) = true := by
  exact byte_all (p := fun a => ((tok (of35T0 a) && peq (of35V0 a) (ofR a))) = true) (by decide +kernel) a h0 h1
theorem ans35 : Answers Try.prog 89 (con1b ofR) := by
  intro args g v h hg
  unfold con1b at h
  split at h
  · rename_i a
    simp only [Option.some.injEq, Prod.mk.injEq] at h
    obtain ⟨rfl, rfl⟩ := h
    rw [inb_iff] at hg
    obtain ⟨h0, h1⟩ := hg
    refine ⟨by simp [plain, plainL], by simp [ofR, plain, plainL], fun w => ?_⟩
    have hk := of35_ok a h0 h1
    exact calls_leaf wok 20000 _ get35 (by kernel_rfl) (by simp [plain, plainL]) (by simp [ofR, plain, plainL]) (of35R0 a) hk w
  · cases h
theorem of36_ok (a : Int) (h0 : 0 ≤ a) (h1 : a ≤ 255) : ((tok (of36T0 a) && peq (of36V0 a) (ofR a))) = true := by
  exact byte_all (p := fun a => ((tok (of36T0 a) && peq (of36V0 a) (ofR a))) = true) (by decide +kernel) a h0 h1
theorem ans36 : Answers Try.prog 77 (con1b ofR) := by
  intro args g v h hg
  unfold con1b at h
  split at h
  · rename_i a
    simp only [Option.some.injEq, Prod.mk.injEq] at h
    obtain ⟨rfl, rfl⟩ := h
    rw [inb_iff] at hg
    obtain ⟨h0, h1⟩ := hg
    refine ⟨by simp [plain, plainL], by simp [ofR, plain, plainL], fun w => ?_⟩
    have hk := of36_ok a h0 h1
    exact calls_leaf wok 20000 _ get36 (by kernel_rfl) (by simp [plain, plainL]) (by simp [ofR, plain, plainL]) (of36R0 a) hk w
  · cases h
end Go.Proofs.Ytpggoincnebfnaa
