/- Part 11 of the texts that the law needs, laid together. By program (pack.py). -/
import Derived.Test.YtnknopebjdgdjaaPfd
import Derived.Test.YtnknopebjdgdjaaPfh
import Derived.Test.YtnknopebjdgdjaaPfj
import Derived.KernelRfl
set_option linter.unusedVariables false
set_option linter.unusedSimpArgs false
noncomputable section
namespace Go.Proofs.Ytnknopebjdgdjaa.Isa
open Go Go.Ly Go.RowKit
def alD : St := Ly.start Try.f68 [] H0
def alCs : List Value := [.int .u8 159, .int .u8 158, .int .u8 39, .int .u8 245, .int .u8 249, .int .u8 248, .int .u8 251, .int .u8 250, .int .u8 244, .int .u8 144]
def alH : Heap := H0.new (.cells alCs 5)
def alK : List KI := ((Ly.run env.bare 65 [(0, false), (0, false), (0, false), (0, false), (0, false), (0, false), (0, false), (0, false)] (Ly.start Try.f68 [.int .u8 0] H0)).st alD).top.k
def alV (a : Int) : List Value := slots 27 [(0, .int .u8 a), (22, .slice (some ⟨0, 0, none⟩) 10 10)]
theorem alJ (a : Int) : haltF [0, 22] alD (Ly.run env.bare 65 [(0, false), (0, false), (0, false), (0, false), (0, false), (0, false), (0, false), (0, false)] (Ly.start Try.f68 [.int .u8 a] H0)) = (true, [(a == 160, false), (a == 162, false), (a == 228, false), (a == 230, false), (a == 233, false), (a == 235, false), (a == 232, false), (a == 195, false)], true, (Try.f68, alK, none, 0), alV a, alH) := by kernel_rfl
def alS (a : Int) : St := behind (atSt Try.f68 alK none 0 (alV a) alH) (.slice (some ⟨1, 0, none⟩) 10 10) (convH alH 0 alCs)
theorem alC (a : Int) : opConv env (atSt Try.f68 alK none 0 (alV a) alH) = some (26, 0, 10, 10) := by kernel_rfl
theorem alG : env.bare.fn.get 68 = some Try.f68 := by kernel_rfl
theorem al0 (a : Int) : (Ly.run env.bare 600 [(0, true)] (Ly.start Try.f68 [.int .u8 a] H0)).out? = some ([(a == 160, true)], .tuple ⟨[.int .i64 1, .int .i64 1, .int .i64 19]⟩) := by kernel_rfl
theorem al1 (a : Int) : (Ly.run env.bare 600 [(0, false), (0, true)] (Ly.start Try.f68 [.int .u8 a] H0)).out? = some ([(a == 160, false), (a == 162, true)], .tuple ⟨[.int .i64 1, .int .i64 19, .int .i64 1]⟩) := by kernel_rfl
theorem al2 (a : Int) : (Ly.run env.bare 600 [(0, false), (0, false), (0, true)] (Ly.start Try.f68 [.int .u8 a] H0)).out? = some ([(a == 160, false), (a == 162, false), (a == 228, true)], .tuple ⟨[.int .i64 30, .int .i64 1, .int .i64 20]⟩) := by kernel_rfl
theorem al3 (a : Int) : (Ly.run env.bare 600 [(0, false), (0, false), (0, false), (0, true)] (Ly.start Try.f68 [.int .u8 a] H0)).out? = some ([(a == 160, false), (a == 162, false), (a == 228, false), (a == 230, true)], .tuple ⟨[.int .i64 31, .int .i64 20, .int .i64 1]⟩) := by kernel_rfl
theorem al4 (a : Int) : (Ly.run env.bare 600 [(0, false), (0, false), (0, false), (0, false), (0, true)] (Ly.start Try.f68 [.int .u8 a] H0)).out? = some ([(a == 160, false), (a == 162, false), (a == 228, false), (a == 230, false), (a == 233, true)], .tuple ⟨[.int .i64 32, .int .i64 20, .int .i64 0]⟩) := by kernel_rfl
theorem al5 (a : Int) : (Ly.run env.bare 600 [(0, false), (0, false), (0, false), (0, false), (0, false), (0, true)] (Ly.start Try.f68 [.int .u8 a] H0)).out? = some ([(a == 160, false), (a == 162, false), (a == 228, false), (a == 230, false), (a == 233, false), (a == 235, true)], .tuple ⟨[.int .i64 33, .int .i64 20, .int .i64 0]⟩) := by kernel_rfl
theorem al6 (a : Int) : (Ly.run env.bare 600 [(0, false), (0, false), (0, false), (0, false), (0, false), (0, false), (0, true)] (Ly.start Try.f68 [.int .u8 a] H0)).out? = some ([(a == 160, false), (a == 162, false), (a == 228, false), (a == 230, false), (a == 233, false), (a == 235, false), (a == 232, true)], .tuple ⟨[.int .i64 34, .int .i64 20, .int .i64 0]⟩) := by kernel_rfl
theorem al7 (a : Int) : (Ly.run env.bare 600 [(0, false), (0, false), (0, false), (0, false), (0, false), (0, false), (0, false), (0, true)] (Ly.start Try.f68 [.int .u8 a] H0)).out? = some ([(a == 160, false), (a == 162, false), (a == 228, false), (a == 230, false), (a == 233, false), (a == 235, false), (a == 232, false), (a == 195, true)], .tuple ⟨[.int .i64 35, .int .i64 0, .int .i64 0]⟩) := by kernel_rfl
theorem alt0 (a : Int) : (Ly.run env.bare 600 [(3, true)] (alS a)).out? = some ([(a == 159, true)], .tuple ⟨[.int .i64 20, .int .i64 0, .int .i64 0]⟩) := by kernel_rfl
theorem alt1 (a : Int) : (Ly.run env.bare 600 [(3, false), (3, true)] (alS a)).out? = some ([(a == 159, false), (a == 158, true)], .tuple ⟨[.int .i64 21, .int .i64 0, .int .i64 0]⟩) := by kernel_rfl
theorem alt2 (a : Int) : (Ly.run env.bare 600 [(3, false), (3, false), (3, true)] (alS a)).out? = some ([(a == 159, false), (a == 158, false), (a == 39, true)], .tuple ⟨[.int .i64 22, .int .i64 0, .int .i64 0]⟩) := by kernel_rfl
theorem alt3 (a : Int) : (Ly.run env.bare 600 [(3, false), (3, false), (3, false), (3, true)] (alS a)).out? = some ([(a == 159, false), (a == 158, false), (a == 39, false), (a == 245, true)], .tuple ⟨[.int .i64 23, .int .i64 0, .int .i64 0]⟩) := by kernel_rfl
theorem alt4 (a : Int) : (Ly.run env.bare 600 [(3, false), (3, false), (3, false), (3, false), (3, true)] (alS a)).out? = some ([(a == 159, false), (a == 158, false), (a == 39, false), (a == 245, false), (a == 249, true)], .tuple ⟨[.int .i64 24, .int .i64 0, .int .i64 0]⟩) := by kernel_rfl
theorem alt5 (a : Int) : (Ly.run env.bare 600 [(3, false), (3, false), (3, false), (3, false), (3, false), (3, true)] (alS a)).out? = some ([(a == 159, false), (a == 158, false), (a == 39, false), (a == 245, false), (a == 249, false), (a == 248, true)], .tuple ⟨[.int .i64 25, .int .i64 0, .int .i64 0]⟩) := by kernel_rfl
theorem alt6 (a : Int) : (Ly.run env.bare 600 [(3, false), (3, false), (3, false), (3, false), (3, false), (3, false), (3, true)] (alS a)).out? = some ([(a == 159, false), (a == 158, false), (a == 39, false), (a == 245, false), (a == 249, false), (a == 248, false), (a == 251, true)], .tuple ⟨[.int .i64 26, .int .i64 0, .int .i64 0]⟩) := by kernel_rfl
theorem alt7 (a : Int) : (Ly.run env.bare 600 [(3, false), (3, false), (3, false), (3, false), (3, false), (3, false), (3, false), (3, true)] (alS a)).out? = some ([(a == 159, false), (a == 158, false), (a == 39, false), (a == 245, false), (a == 249, false), (a == 248, false), (a == 251, false), (a == 250, true)], .tuple ⟨[.int .i64 27, .int .i64 0, .int .i64 0]⟩) := by kernel_rfl
theorem alt8 (a : Int) : (Ly.run env.bare 600 [(3, false), (3, false), (3, false), (3, false), (3, false), (3, false), (3, false), (3, false), (3, true)] (alS a)).out? = some ([(a == 159, false), (a == 158, false), (a == 39, false), (a == 245, false), (a == 249, false), (a == 248, false), (a == 251, false), (a == 250, false), (a == 244, true)], .tuple ⟨[.int .i64 28, .int .i64 0, .int .i64 0]⟩) := by kernel_rfl
theorem alt9 (a : Int) : (Ly.run env.bare 600 [(3, false), (3, false), (3, false), (3, false), (3, false), (3, false), (3, false), (3, false), (3, false), (3, true)] (alS a)).out? = some ([(a == 159, false), (a == 158, false), (a == 39, false), (a == 245, false), (a == 249, false), (a == 248, false), (a == 251, false), (a == 250, false), (a == 244, false), (a == 144, true)], .tuple ⟨[.int .i64 29, .int .i64 0, .int .i64 0]⟩) := by kernel_rfl
theorem alt10 (a : Int) : (Ly.run env.bare 600 [(3, false), (3, false), (3, false), (3, false), (3, false), (3, false), (3, false), (3, false), (3, false), (3, false)] (alS a)).out? = some ([(a == 159, false), (a == 158, false), (a == 39, false), (a == 245, false), (a == 249, false), (a == 248, false), (a == 251, false), (a == 250, false), (a == 244, false), (a == 144, false)], .tuple ⟨[.int .i64 19, .int .i64 0, .int .i64 0]⟩) := by kernel_rfl
def alT (a : Int) : Value := bif a == 160 then .tuple ⟨[.int .i64 1, .int .i64 1, .int .i64 19]⟩ else bif a == 162 then .tuple ⟨[.int .i64 1, .int .i64 19, .int .i64 1]⟩ else bif a == 228 then .tuple ⟨[.int .i64 30, .int .i64 1, .int .i64 20]⟩ else bif a == 230 then .tuple ⟨[.int .i64 31, .int .i64 20, .int .i64 1]⟩ else bif a == 233 then .tuple ⟨[.int .i64 32, .int .i64 20, .int .i64 0]⟩ else bif a == 235 then .tuple ⟨[.int .i64 33, .int .i64 20, .int .i64 0]⟩ else bif a == 232 then .tuple ⟨[.int .i64 34, .int .i64 20, .int .i64 0]⟩ else bif a == 195 then .tuple ⟨[.int .i64 35, .int .i64 0, .int .i64 0]⟩ else bif a == 159 then .tuple ⟨[.int .i64 20, .int .i64 0, .int .i64 0]⟩ else bif a == 158 then .tuple ⟨[.int .i64 21, .int .i64 0, .int .i64 0]⟩ else bif a == 39 then .tuple ⟨[.int .i64 22, .int .i64 0, .int .i64 0]⟩ else bif a == 245 then .tuple ⟨[.int .i64 23, .int .i64 0, .int .i64 0]⟩ else bif a == 249 then .tuple ⟨[.int .i64 24, .int .i64 0, .int .i64 0]⟩ else bif a == 248 then .tuple ⟨[.int .i64 25, .int .i64 0, .int .i64 0]⟩ else bif a == 251 then .tuple ⟨[.int .i64 26, .int .i64 0, .int .i64 0]⟩ else bif a == 250 then .tuple ⟨[.int .i64 27, .int .i64 0, .int .i64 0]⟩ else bif a == 244 then .tuple ⟨[.int .i64 28, .int .i64 0, .int .i64 0]⟩ else bif a == 144 then .tuple ⟨[.int .i64 29, .int .i64 0, .int .i64 0]⟩ else .tuple ⟨[.int .i64 19, .int .i64 0, .int .i64 0]⟩
theorem alT_plain (a : Int) : plain (alT a) = true := by
  unfold alT
  repeat' (first | rfl | (rw [Bool.cond_eq_ite]; split))
theorem al_call (a : Int) : LCalls Try.prog 68 [.int .u8 a] H0 (fun u _ => u = alT a) := by
  unfold alT
  cases h0 : (a == 160) with
  | true => simp only [cond_true]; exact LCalls_trust (Env.bare_ok envOk) 600 _ alG (by kernel_rfl) (al0 a) (by simp [trusted, h0])
  | false =>
  simp only [cond_false]
  cases h1 : (a == 162) with
  | true => simp only [cond_true]; exact LCalls_trust (Env.bare_ok envOk) 600 _ alG (by kernel_rfl) (al1 a) (by simp [trusted, h0, h1])
  | false =>
  simp only [cond_false]
  cases h2 : (a == 228) with
  | true => simp only [cond_true]; exact LCalls_trust (Env.bare_ok envOk) 600 _ alG (by kernel_rfl) (al2 a) (by simp [trusted, h0, h1, h2])
  | false =>
  simp only [cond_false]
  cases h3 : (a == 230) with
  | true => simp only [cond_true]; exact LCalls_trust (Env.bare_ok envOk) 600 _ alG (by kernel_rfl) (al3 a) (by simp [trusted, h0, h1, h2, h3])
  | false =>
  simp only [cond_false]
  cases h4 : (a == 233) with
  | true => simp only [cond_true]; exact LCalls_trust (Env.bare_ok envOk) 600 _ alG (by kernel_rfl) (al4 a) (by simp [trusted, h0, h1, h2, h3, h4])
  | false =>
  simp only [cond_false]
  cases h5 : (a == 235) with
  | true => simp only [cond_true]; exact LCalls_trust (Env.bare_ok envOk) 600 _ alG (by kernel_rfl) (al5 a) (by simp [trusted, h0, h1, h2, h3, h4, h5])
  | false =>
  simp only [cond_false]
  cases h6 : (a == 232) with
  | true => simp only [cond_true]; exact LCalls_trust (Env.bare_ok envOk) 600 _ alG (by kernel_rfl) (al6 a) (by simp [trusted, h0, h1, h2, h3, h4, h5, h6])
  | false =>
  simp only [cond_false]
  cases h7 : (a == 195) with
  | true => simp only [cond_true]; exact LCalls_trust (Env.bare_ok envOk) 600 _ alG (by kernel_rfl) (al7 a) (by simp [trusted, h0, h1, h2, h3, h4, h5, h6, h7])
  | false =>
  simp only [cond_false]
  refine LCalls_of (Env.bare_ok envOk) alG (by kernel_rfl) (MWp.halted (Env.bare_ok envOk) [0, 22] 65 _ (alJ a) (by simp [trusted, h0, h1, h2, h3, h4, h5, h6, h7]) ?_)
  refine MWp.conv (t := 5) (cs := alCs) envOk (alC a) (by kernel_rfl) rfl (by show 2 < 2147483000; omega) (by kernel_rfl) (by rfl) (by omega) (by show 10 ≤ 10; omega) (by unfold capU; omega) ?_
  show MWp Try.prog (alS a) _
  cases k0 : (a == 159) with
  | true => simp only [cond_true]; exact MWp.out (Env.bare_ok envOk) 600 _ (alt0 a) (by simp [trusted, k0]) (fun _ => rfl)
  | false =>
  simp only [cond_false]
  cases k1 : (a == 158) with
  | true => simp only [cond_true]; exact MWp.out (Env.bare_ok envOk) 600 _ (alt1 a) (by simp [trusted, k0, k1]) (fun _ => rfl)
  | false =>
  simp only [cond_false]
  cases k2 : (a == 39) with
  | true => simp only [cond_true]; exact MWp.out (Env.bare_ok envOk) 600 _ (alt2 a) (by simp [trusted, k0, k1, k2]) (fun _ => rfl)
  | false =>
  simp only [cond_false]
  cases k3 : (a == 245) with
  | true => simp only [cond_true]; exact MWp.out (Env.bare_ok envOk) 600 _ (alt3 a) (by simp [trusted, k0, k1, k2, k3]) (fun _ => rfl)
  | false =>
  simp only [cond_false]
  cases k4 : (a == 249) with
  | true => simp only [cond_true]; exact MWp.out (Env.bare_ok envOk) 600 _ (alt4 a) (by simp [trusted, k0, k1, k2, k3, k4]) (fun _ => rfl)
  | false =>
  simp only [cond_false]
  cases k5 : (a == 248) with
  | true => simp only [cond_true]; exact MWp.out (Env.bare_ok envOk) 600 _ (alt5 a) (by simp [trusted, k0, k1, k2, k3, k4, k5]) (fun _ => rfl)
  | false =>
  simp only [cond_false]
  cases k6 : (a == 251) with
  | true => simp only [cond_true]; exact MWp.out (Env.bare_ok envOk) 600 _ (alt6 a) (by simp [trusted, k0, k1, k2, k3, k4, k5, k6]) (fun _ => rfl)
  | false =>
  simp only [cond_false]
  cases k7 : (a == 250) with
  | true => simp only [cond_true]; exact MWp.out (Env.bare_ok envOk) 600 _ (alt7 a) (by simp [trusted, k0, k1, k2, k3, k4, k5, k6, k7]) (fun _ => rfl)
  | false =>
  simp only [cond_false]
  cases k8 : (a == 244) with
  | true => simp only [cond_true]; exact MWp.out (Env.bare_ok envOk) 600 _ (alt8 a) (by simp [trusted, k0, k1, k2, k3, k4, k5, k6, k7, k8]) (fun _ => rfl)
  | false =>
  simp only [cond_false]
  cases k9 : (a == 144) with
  | true => simp only [cond_true]; exact MWp.out (Env.bare_ok envOk) 600 _ (alt9 a) (by simp [trusted, k0, k1, k2, k3, k4, k5, k6, k7, k8, k9]) (fun _ => rfl)
  | false =>
  simp only [cond_false]
  exact MWp.out (Env.bare_ok envOk) 600 _ (alt10 a) (by simp [trusted, k0, k1, k2, k3, k4, k5, k6, k7, k8, k9]) (fun _ => rfl)
def aloneR (l : List Value) : Option (Bool × Value) := match l with
  | [.int .u8 a] => some (true, alT a)
  | _ => none
theorem alone_ans : Answers Try.prog 68 aloneR := by
  intro args g v h hg
  unfold aloneR at h
  split at h
  · rename_i a
    simp only [Option.some.injEq, Prod.mk.injEq] at h
    obtain ⟨rfl, rfl⟩ := h
    exact ⟨by simp [plain, plainL], alT_plain a, fun w => calls_plain (by simp [VRL, VR]) (fun ρ v' h => plain_eq (alT_plain a) h) (al_call a) w⟩
  · cases h
end Go.Proofs.Ytnknopebjdgdjaa.Isa
namespace Go.Proofs.Ytnknopebjdgdjaa.Isa
theorem okAll_1 : okAll 1 = true := by kernel_rfl
theorem okAll_2 : okAll 2 = true := by kernel_rfl
theorem okAll_3 : okAll 3 = true := by kernel_rfl
theorem okAll_4 : okAll 4 = true := by kernel_rfl
end Go.Proofs.Ytnknopebjdgdjaa.Isa
namespace Go.Proofs.Ytnknopebjdgdjaa.Isa
theorem okAll_5 : okAll 5 = true := by kernel_rfl
theorem okAll_6 : okAll 6 = true := by kernel_rfl
theorem okAll_7 : okAll 7 = true := by kernel_rfl
theorem okAll_8 : okAll 8 = true := by kernel_rfl
end Go.Proofs.Ytnknopebjdgdjaa.Isa
namespace Go.Proofs.Ytnknopebjdgdjaa.Isa
theorem okAll_9 : okAll 9 = true := by kernel_rfl
theorem okAll_10 : okAll 10 = true := by kernel_rfl
theorem okAll_11 : okAll 11 = true := by kernel_rfl
theorem okAll_12 : okAll 12 = true := by kernel_rfl
theorem okAll_13 : okAll 13 = true := by kernel_rfl
theorem okAll_14 : okAll 14 = true := by kernel_rfl
theorem okAll_15 : okAll 15 = true := by kernel_rfl
theorem okAll_16 : okAll 16 = true := by kernel_rfl
theorem okAll_17 : okAll 17 = true := by kernel_rfl
end Go.Proofs.Ytnknopebjdgdjaa.Isa
namespace Go.Proofs.Ytnknopebjdgdjaa.Isa
theorem okAll_18 : okAll 18 = true := by kernel_rfl
theorem okAll_19 : okAll 19 = true := by kernel_rfl
theorem okAll_20 : okAll 20 = true := by kernel_rfl
theorem okAll_21 : okAll 21 = true := by kernel_rfl
theorem okAll_22 : okAll 22 = true := by kernel_rfl
theorem okAll_23 : okAll 23 = true := by kernel_rfl
theorem okAll_24 : okAll 24 = true := by kernel_rfl
theorem okAll_25 : okAll 25 = true := by kernel_rfl
theorem okAll_26 : okAll 26 = true := by kernel_rfl
theorem okAll_27 : okAll 27 = true := by kernel_rfl
theorem okAll_28 : okAll 28 = true := by kernel_rfl
theorem okAll_29 : okAll 29 = true := by kernel_rfl
theorem okAll_30 : okAll 30 = true := by kernel_rfl
theorem okAll_31 : okAll 31 = true := by kernel_rfl
theorem okAll_32 : okAll 32 = true := by kernel_rfl
theorem okAll_33 : okAll 33 = true := by kernel_rfl
theorem okAll_34 : okAll 34 = true := by kernel_rfl
theorem okAll_35 : okAll 35 = true := by kernel_rfl
theorem okAll_36 : okAll 36 = true := by kernel_rfl
theorem okAll_37 : okAll 37 = true := by kernel_rfl
theorem okAll_38 : okAll 38 = true := by kernel_rfl
theorem okAll_39 : okAll 39 = true := by kernel_rfl
theorem okAll_40 : okAll 40 = true := by kernel_rfl
theorem okAll_41 : okAll 41 = true := by kernel_rfl
theorem okAll_42 : okAll 42 = true := by kernel_rfl
theorem okAll_43 : okAll 43 = true := by kernel_rfl
theorem okAll_44 : okAll 44 = true := by kernel_rfl
theorem okAll_45 : okAll 45 = true := by kernel_rfl
theorem okAll_46 : okAll 46 = true := by kernel_rfl
theorem okAll_47 : okAll 47 = true := by kernel_rfl
theorem okAll_48 : okAll 48 = true := by kernel_rfl
theorem okAll_49 : okAll 49 = true := by kernel_rfl
theorem okAll_50 : okAll 50 = true := by kernel_rfl
theorem okAll_51 : okAll 51 = true := by kernel_rfl
end Go.Proofs.Ytnknopebjdgdjaa.Isa
namespace Go.Proofs.Ytnknopebjdgdjaa.Isa
theorem okAll_at (k : Nat) (h1 : 1 ≤ k) (h2 : k ≤ 51) : okAll k = true := by
  have : k = 1 ∨ k = 2 ∨ k = 3 ∨ k = 4 ∨ k = 5 ∨ k = 6 ∨ k = 7 ∨ k = 8 ∨ k = 9 ∨ k = 10 ∨ k = 11 ∨ k = 12 ∨ k = 13 ∨ k = 14 ∨ k = 15 ∨ k = 16 ∨ k = 17 ∨ k = 18 ∨ k = 19 ∨ k = 20 ∨ k = 21 ∨ k = 22 ∨ k = 23 ∨ k = 24 ∨ k = 25 ∨ k = 26 ∨ k = 27 ∨ k = 28 ∨ k = 29 ∨ k = 30 ∨ k = 31 ∨ k = 32 ∨ k = 33 ∨ k = 34 ∨ k = 35 ∨ k = 36 ∨ k = 37 ∨ k = 38 ∨ k = 39 ∨ k = 40 ∨ k = 41 ∨ k = 42 ∨ k = 43 ∨ k = 44 ∨ k = 45 ∨ k = 46 ∨ k = 47 ∨ k = 48 ∨ k = 49 ∨ k = 50 ∨ k = 51 := by omega
  rcases this with rfl | rfl | rfl | rfl | rfl | rfl | rfl | rfl | rfl | rfl | rfl | rfl | rfl | rfl | rfl | rfl | rfl | rfl | rfl | rfl | rfl | rfl | rfl | rfl | rfl | rfl | rfl | rfl | rfl | rfl | rfl | rfl | rfl | rfl | rfl | rfl | rfl | rfl | rfl | rfl | rfl | rfl | rfl | rfl | rfl | rfl | rfl | rfl | rfl | rfl | rfl
  · exact okAll_1
  · exact okAll_2
  · exact okAll_3
  · exact okAll_4
  · exact okAll_5
  · exact okAll_6
  · exact okAll_7
  · exact okAll_8
  · exact okAll_9
  · exact okAll_10
  · exact okAll_11
  · exact okAll_12
  · exact okAll_13
  · exact okAll_14
  · exact okAll_15
  · exact okAll_16
  · exact okAll_17
  · exact okAll_18
  · exact okAll_19
  · exact okAll_20
  · exact okAll_21
  · exact okAll_22
  · exact okAll_23
  · exact okAll_24
  · exact okAll_25
  · exact okAll_26
  · exact okAll_27
  · exact okAll_28
  · exact okAll_29
  · exact okAll_30
  · exact okAll_31
  · exact okAll_32
  · exact okAll_33
  · exact okAll_34
  · exact okAll_35
  · exact okAll_36
  · exact okAll_37
  · exact okAll_38
  · exact okAll_39
  · exact okAll_40
  · exact okAll_41
  · exact okAll_42
  · exact okAll_43
  · exact okAll_44
  · exact okAll_45
  · exact okAll_46
  · exact okAll_47
  · exact okAll_48
  · exact okAll_49
  · exact okAll_50
  · exact okAll_51
theorem okHd_at {op d s : Int} (h : (hd op d s).n ≠ 0) : okHd op d s = true := by
  obtain ⟨h1, h2, h3, h4, h5, h6⟩ := hd_range h
  obtain ⟨op', rfl⟩ := Int.eq_ofNat_of_zero_le (show 0 ≤ op by omega)
  obtain ⟨d', rfl⟩ := Int.eq_ofNat_of_zero_le h3
  obtain ⟨s', rfl⟩ := Int.eq_ofNat_of_zero_le h5
  have key := okAll_at op' (by omega) (by omega)
  unfold okAll at key
  have := List.all_eq_true.1 (List.all_eq_true.1 key d' (List.mem_range.2 (by omega))) s' (List.mem_range.2 (by omega))
  exact this
theorem is3_eq {t : T3} {op d s : Int} (h : is3 t op d s = true) : t = ⟨op, d, s⟩ := by
  unfold is3 at h
  simp only [Bool.and_eq_true, beq_iff_eq] at h
  obtain ⟨a, b, c⟩ := t
  simp only at h
  obtain ⟨rfl, rfl, rfl⟩ := h
  rfl
theorem by1_iff {x : Int} : by1 x = true ↔ 0 ≤ x ∧ x ≤ 255 := by unfold by1; simp
theorem hd_one {op d s : Int} (h : (hd op d s).n = 1) : (0 ≤ (hd op d s).b0 ∧ (hd op d s).b0 ≤ 255) ∧ (0 ≤ (hd op d s).t ∧ (hd op d s).t ≤ 3) ∧ ∀ m : Int, 0 ≤ m → m ≤ 255 → gs (hd op d s).b0 m = ⟨op, d, s⟩ := by
  have k := okHd_at (op := op) (d := d) (s := s) (by omega)
  unfold okHd at k
  have e1 : ((hd op d s).n == 0) = false := by rw [h]; rfl
  have e2 : ((hd op d s).n == 1) = true := by rw [h]; rfl
  simp only [e1, e2, cond_false, cond_true, Bool.and_eq_true, by1_iff, decide_eq_true_eq] at k
  refine ⟨k.1, k.2.1.2, fun m h1 h2 => ?_⟩
  obtain ⟨m', rfl⟩ := Int.eq_ofNat_of_zero_le h1
  exact is3_eq (List.all_eq_true.1 k.2.2 m' (List.mem_range.2 (by omega)))
theorem hd_two {op d s : Int} (h : (hd op d s).n ≠ 0) (h1 : (hd op d s).n ≠ 1) : (hd op d s).n = 2 ∧ (0 ≤ (hd op d s).b0 ∧ (hd op d s).b0 ≤ 255) ∧ (0 ≤ (hd op d s).b1 ∧ (hd op d s).b1 ≤ 255) ∧ (0 ≤ (hd op d s).t ∧ (hd op d s).t ≤ 2) ∧ gs (hd op d s).b0 (hd op d s).b1 = ⟨op, d, s⟩ := by
  have k := okHd_at (op := op) (d := d) (s := s) h
  unfold okHd at k
  have e1 : ((hd op d s).n == 0) = false := by simpa using h
  have e2 : ((hd op d s).n == 1) = false := by simpa using h1
  simp only [e1, e2, cond_false, Bool.and_eq_true, by1_iff, decide_eq_true_eq, beq_iff_eq] at k
  obtain ⟨k0, k1, k2, k3, k4⟩ := k
  exact ⟨k0, k1, k2, k3, is3_eq k4⟩
end Go.Proofs.Ytnknopebjdgdjaa.Isa
namespace Go.Proofs.Ytnknopebjdgdjaa.Isa
open Go Go.Ly Go.RowKit
def t3V (t : T3) : Value := .tuple ⟨[.int .i64 t.op, .int .i64 t.d, .int .i64 t.s]⟩
theorem alT_eq (a : Int) : alT a = t3V (gsAlone a) := by
  unfold alT gsAlone
  cases (a == 160) with
  | true => rfl
  | false =>
  simp only [cond_false]
  cases (a == 162) with
  | true => rfl
  | false =>
  simp only [cond_false]
  cases (a == 228) with
  | true => rfl
  | false =>
  simp only [cond_false]
  cases (a == 230) with
  | true => rfl
  | false =>
  simp only [cond_false]
  cases (a == 233) with
  | true => rfl
  | false =>
  simp only [cond_false]
  cases (a == 235) with
  | true => rfl
  | false =>
  simp only [cond_false]
  cases (a == 232) with
  | true => rfl
  | false =>
  simp only [cond_false]
  cases (a == 195) with
  | true => rfl
  | false =>
  simp only [cond_false]
  cases (a == 159) with
  | true => rfl
  | false =>
  simp only [cond_false]
  cases (a == 158) with
  | true => rfl
  | false =>
  simp only [cond_false]
  cases (a == 39) with
  | true => rfl
  | false =>
  simp only [cond_false]
  cases (a == 245) with
  | true => rfl
  | false =>
  simp only [cond_false]
  cases (a == 249) with
  | true => rfl
  | false =>
  simp only [cond_false]
  cases (a == 248) with
  | true => rfl
  | false =>
  simp only [cond_false]
  cases (a == 251) with
  | true => rfl
  | false =>
  simp only [cond_false]
  cases (a == 250) with
  | true => rfl
  | false =>
  simp only [cond_false]
  cases (a == 244) with
  | true => rfl
  | false =>
  simp only [cond_false]
  cases (a == 144) with
  | true => rfl
  | false =>
  simp only [cond_false]
  rfl
def alone2 (l : List Value) : Option (Bool × Value) := match l with
  | [.int .u8 a] => some (true, t3V (gsAlone a))
  | _ => none
theorem alone2_ans : Answers Try.prog 68 alone2 := by
  intro args g v h hg
  refine alone_ans args g v ?_ hg
  unfold alone2 at h
  unfold aloneR
  split at h
  · show some (true, alT _) = _
    rw [alT_eq]; exact h
  · cases h
def ctxU : Ctx := ctxW.with 68 alone2
theorem ctxU_ok : ctxU.Ok Try.prog := ctxW_ok.with alone2_ans
end Go.Proofs.Ytnknopebjdgdjaa.Isa
namespace Go.Proofs.Ytnknopebjdgdjaa.Isa
open Go Go.Ly Go.RowKit
def nilHd : Value := .agg ⟨[.slice none 0 0, .int .i64 0]⟩
def HdCall (op d s : Int) : Prop := ((hd op d s).n = 0 ∧ LCalls Try.prog 40 [.int .i64 op, .int .i64 d, .int .i64 s] H0 (fun u _ => u = nilHd)) ∨ ((hd op d s).n = 1 ∧ ∃ r, LCalls Try.prog 40 [.int .i64 op, .int .i64 d, .int .i64 s] H0 (fun u K => u = .agg ⟨[.slice (some ⟨r, 0, none⟩) 1 1, .int .i64 (hd op d s).t]⟩ ∧ K.get r = some (.cells [.int .u8 (hd op d s).b0] 5) ∧ K.lock = 0)) ∨ ((hd op d s).n = 2 ∧ ∃ r, LCalls Try.prog 40 [.int .i64 op, .int .i64 d, .int .i64 s] H0 (fun u K => u = .agg ⟨[.slice (some ⟨r, 0, none⟩) 2 2, .int .i64 (hd op d s).t]⟩ ∧ K.get r = some (.cells [.int .u8 (hd op d s).b0, .int .u8 (hd op d s).b1] 5) ∧ K.lock = 0))
def hdLeaf (v : Value) (K : Heap) : Option Hd :=
  match K.lock, v with
  | 0, .agg ⟨[.slice none 0 0, .int .i64 0]⟩ => some hdN
  | 0, .agg ⟨[.slice (some ⟨r, 0, none⟩) 1 1, .int .i64 t]⟩ => match K.get r with
    | some (.cells [.int .u8 x] 5) => some ⟨1, x, 0, t⟩
    | _ => none
  | 0, .agg ⟨[.slice (some ⟨r, 0, none⟩) 2 2, .int .i64 t]⟩ => match K.get r with
    | some (.cells [.int .u8 x, .int .u8 y] 5) => some ⟨2, x, y, t⟩
    | _ => none
  | _, _ => none
theorem wd_ex (c : Int) : wd c = 8 ∨ wd c = 16 ∨ wd c = 0 := by
  unfold wd
  cases decide (1 ≤ c) && decide (c ≤ 8) with
  | true => exact .inl rfl
  | false => cases decide (9 ≤ c) && decide (c ≤ 16) with
    | true => exact .inr (.inl rfl)
    | false => exact .inr (.inr rfl)
theorem bq_t (b : Bool) : (b == true) = b := by cases b <;> rfl
theorem bq_f (b : Bool) : (b == false) = !b := by cases b <;> rfl
theorem or_nm (k : Int) (hk : k = 64 ∨ k = 72 ∨ k = 80 ∨ k = 88 ∨ k = 176 ∨ k = 184) (c : Int) : bits .or .u8 k (nm c) = k + nm c := by
  have h := nm_7 c
  rcases hk with rfl | rfl | rfl | rfl | rfl | rfl
  · exact fin8 (p := fun x => bits .or .u8 64 x = 64 + x) (by decide) (nm c) h.1 h.2
  · exact fin8 (p := fun x => bits .or .u8 72 x = 72 + x) (by decide) (nm c) h.1 h.2
  · exact fin8 (p := fun x => bits .or .u8 80 x = 80 + x) (by decide) (nm c) h.1 h.2
  · exact fin8 (p := fun x => bits .or .u8 88 x = 88 + x) (by decide) (nm c) h.1 h.2
  · exact fin8 (p := fun x => bits .or .u8 176 x = 176 + x) (by decide) (nm c) h.1 h.2
  · exact fin8 (p := fun x => bits .or .u8 184 x = 184 + x) (by decide) (nm c) h.1 h.2
theorem or_w1 (d : Int) (h : wd d ≠ 0) : bits .or .u8 208 (IntKind.u8.wrap (IntKind.i64.wrap ((wd d).tdiv 16))) = 208 + w1 d := by
  have h1 := wd0 h
  by_cases e : d ≤ 8
  · have : wd d = 8 := wd8.2 ⟨by omega, e⟩
    unfold w1; rw [this]; decide
  · have : wd d = 16 := wd16.2 ⟨by omega, by omega⟩
    unfold w1; rw [this]; decide
theorem nz : (∀ b : Bool, (b == true) = b) ∧ (∀ b : Bool, (b == false) = !b) ∧ (∀ b : Bool, ((!b) = true) = (b = false)) ∧ (∀ b : Bool, ((!b) = false) = (b = true)) := ⟨bq_t, bq_f, by decide, by decide⟩
theorem pA : (∀ a b : Int, ((a == b) = true) = (a = b)) ∧ (∀ a b : Int, ((a == b) = false) = (a ≠ b)) ∧ (∀ a b : Int, ((a != b) = true) = (a ≠ b)) ∧ (∀ a b : Int, ((a != b) = false) = (a = b)) :=
  ⟨fun a b => by simp, fun a b => by simp, fun a b => by simp, fun a b => by simp⟩
theorem wA : (∀ c, (wd c = 8) = (1 ≤ c ∧ c ≤ 8)) ∧ (∀ c, (wd c = 16) = (9 ≤ c ∧ c ≤ 16)) := ⟨fun c => propext wd8, fun c => propext wd16⟩
theorem cA : (∀ (α : Type) (x y : α), (bif true then x else y) = x) ∧ (∀ (α : Type) (x y : α), (bif false then x else y) = y) ∧ (∀ b : Bool, (b && true) = b ∧ (true && b) = b ∧ (b && false) = false ∧ (false && b) = false ∧ (b || true) = true ∧ (true || b) = true ∧ (b || false) = b ∧ (false || b) = b) := ⟨fun _ _ _ => rfl, fun _ _ _ => rfl, by decide⟩
theorem dA : (∀ a b : Int, (decide (a < b) = true) = (a < b)) ∧ (∀ a b : Int, (decide (a < b) = false) = ¬ (a < b)) ∧ (∀ a b : Int, (decide (a ≤ b) = true) = (a ≤ b)) ∧ (∀ a b : Int, (decide (a ≤ b) = false) = ¬ (a ≤ b)) := ⟨fun a b => by simp, fun a b => by simp, fun a b => by simp, fun a b => by simp⟩
theorem gHeads : ctxW.fn.get 40 = some Try.f40 := by kernel_rfl
abbrev hst (op d s : Int) : St := Ly.start Try.f40 [.int .i64 op, .int .i64 d, .int .i64 s] H0
def dp (l : List Nat) : Path := l.map fun x => (x / 2, x % 2 == 1)
theorem hd_of {op d s : Int} {T : RT Hd} (h : treeG ctxW hdLeaf 900 T.cnt T (hst op d s) = T) (hs : T.sat (fun a => hd op d s = a)) : HdCall op d s := by
  obtain ⟨v, K, a, h1, h2, h3⟩ := MWp.treeG ctxW_ok h hs
  have h4 : LCalls Try.prog 40 [.int .i64 op, .int .i64 d, .int .i64 s] H0 (fun u K' => u = v ∧ K' = K) := LCalls_of ctxW_ok gHeads (by kernel_rfl) h3
  unfold hdLeaf at h1
  split at h1
  · injection h1 with h1
    exact .inl ⟨by rw [h2, ← h1]; rfl, h4.mono (fun u K h => h.1)⟩
  · rename_i r t hl
    split at h1
    · rename_i x hx
      injection h1 with h1
      subst h1
      exact .inr (.inl ⟨by rw [h2], r, h4.mono (by rintro u K' ⟨rfl, rfl⟩; exact ⟨by rw [h2], by rw [hx, h2], hl⟩)⟩)
    · cases h1
  · rename_i r t hl
    split at h1
    · rename_i x y hx
      injection h1 with h1
      subst h1
      exact .inr (.inr ⟨by rw [h2], r, h4.mono (by rintro u K' ⟨rfl, rfl⟩; exact ⟨by rw [h2], by rw [hx, h2], hl⟩)⟩)
    · cases h1
  · cases h1
abbrev q0 (x k : Int) : Bool := (x == k) == true
abbrev q1 (x k : Int) : Bool := x == k
abbrev q2 (x k : Int) : Bool := x != k
abbrev q3 (x k : Int) : Bool := (x != k) == true
abbrev q4 (x k : Int) : Bool := (x != k) == false
abbrev r2 (x y t : Int) : RT Hd := .l ⟨2, x, y, t⟩
abbrev r1 (x t : Int) : RT Hd := .l ⟨1, x, 0, t⟩
abbrev r0 : RT Hd := .l hdN
theorem orA (c : Int) : bits .or .u8 64 (nm c) = 64 + nm c ∧ bits .or .u8 72 (nm c) = 72 + nm c ∧ bits .or .u8 80 (nm c) = 80 + nm c ∧ bits .or .u8 88 (nm c) = 88 + nm c ∧ bits .or .u8 176 (nm c) = 176 + nm c ∧ bits .or .u8 184 (nm c) = 184 + nm c :=
  ⟨or_nm _ (by omega) c, or_nm _ (by omega) c, or_nm _ (by omega) c, or_nm _ (by omega) c, or_nm _ (by omega) c, or_nm _ (by omega) c⟩
theorem RT.sb0 {α : Type} {Q : α → Prop} {n : Nat} {X Y : RT α} {x k : Int} (h : (x == k) = true → X.sat Q) (h' : (x == k) = false → Y.sat Q) : (RT.b n (q0 x k) X Y).sat Q := ⟨fun e => h (by simp at e ⊢; exact e), fun e => h' (by simp at e ⊢; exact e)⟩
theorem RT.st0 {α : Type} {Q : α → Prop} {n : Nat} {X : RT α} {x k : Int} (h : (x == k) = true) (h' : (x == k) = true → X.sat Q) : (RT.t n (q0 x k) X).sat Q := ⟨by simp at h ⊢; exact h, h' h⟩
theorem RT.sf0 {α : Type} {Q : α → Prop} {n : Nat} {X : RT α} {x k : Int} (h : (x == k) = false) (h' : (x == k) = false → X.sat Q) : (RT.f n (q0 x k) X).sat Q := ⟨by simp at h ⊢; exact h, h' h⟩
theorem RT.sb1 {α : Type} {Q : α → Prop} {n : Nat} {X Y : RT α} {x k : Int} (h : (x == k) = true → X.sat Q) (h' : (x == k) = false → Y.sat Q) : (RT.b n (q1 x k) X Y).sat Q := ⟨fun e => h (by simp at e ⊢; exact e), fun e => h' (by simp at e ⊢; exact e)⟩
theorem RT.sf1 {α : Type} {Q : α → Prop} {n : Nat} {X : RT α} {x k : Int} (h : (x == k) = false) (h' : (x == k) = false → X.sat Q) : (RT.f n (q1 x k) X).sat Q := ⟨by simp at h ⊢; exact h, h' h⟩
theorem RT.sb2 {α : Type} {Q : α → Prop} {n : Nat} {X Y : RT α} {x k : Int} (h : (x != k) = true → X.sat Q) (h' : (x != k) = false → Y.sat Q) : (RT.b n (q2 x k) X Y).sat Q := ⟨fun e => h (by simp at e ⊢; exact e), fun e => h' (by simp at e ⊢; exact e)⟩
theorem RT.st2 {α : Type} {Q : α → Prop} {n : Nat} {X : RT α} {x k : Int} (h : (x != k) = true) (h' : (x != k) = true → X.sat Q) : (RT.t n (q2 x k) X).sat Q := ⟨by simp at h ⊢; exact h, h' h⟩
theorem RT.sb3 {α : Type} {Q : α → Prop} {n : Nat} {X Y : RT α} {x k : Int} (h : (x != k) = true → X.sat Q) (h' : (x != k) = false → Y.sat Q) : (RT.b n (q3 x k) X Y).sat Q := ⟨fun e => h (by simp at e ⊢; exact e), fun e => h' (by simp at e ⊢; exact e)⟩
theorem RT.st3 {α : Type} {Q : α → Prop} {n : Nat} {X : RT α} {x k : Int} (h : (x != k) = true) (h' : (x != k) = true → X.sat Q) : (RT.t n (q3 x k) X).sat Q := ⟨by simp at h ⊢; exact h, h' h⟩
theorem RT.sb4 {α : Type} {Q : α → Prop} {n : Nat} {X Y : RT α} {x k : Int} (h : (x != k) = false → X.sat Q) (h' : (x != k) = true → Y.sat Q) : (RT.b n (q4 x k) X Y).sat Q := ⟨fun e => h (by simp at e ⊢; exact e), fun e => h' (by simp at e ⊢; exact e)⟩
end Go.Proofs.Ytnknopebjdgdjaa.Isa
namespace Go.Proofs.Ytnknopebjdgdjaa.Isa
open Go Go.Ly Go.RowKit
theorem byte2 {p : Int → Prop} (h : ∀ n : Fin 256, p (n.val : Int)) (b : Int) (h0 : 0 ≤ b ∧ b ≤ 255) : p b := fin_all 256 h b h0.1 (by omega)
theorem a2 (a : Int) (h : 0 ≤ a ∧ a ≤ 255) : (bits .and .u8 a 2 == 0) = (a / 2 % 2 == 0) := byte2 (p := fun a => (bits .and .u8 a 2 == 0) = (a / 2 % 2 == 0)) (by decide +kernel) a h
theorem a252 (a : Int) (h : 0 ≤ a ∧ a ≤ 255) : (bits .and .u8 a 252 == 136) = (a / 4 == 34) := byte2 (p := fun a => (bits .and .u8 a 252 == 136) = (a / 4 == 34)) (by decide +kernel) a h
theorem a1 (a : Int) (h : 0 ≤ a ∧ a ≤ 255) : bits .and .u8 a 1 = a % 2 := byte2 (p := fun a => bits .and .u8 a 1 = a % 2) (by decide +kernel) a h
theorem a15 (a : Int) (h : 0 ≤ a ∧ a ≤ 255) : bits .and .u8 a 15 = a % 16 := byte2 (p := fun a => bits .and .u8 a 15 = a % 16) (by decide +kernel) a h
theorem rgs_t (x : Int) : rgs x true = x % 8 + 9 := rfl
theorem rgs_f (x : Int) : rgs x false = x % 8 + 1 := rfl
theorem fdv (a : Int) (h : 0 ≤ a ∧ a ≤ 255) (k : Int) (hk : 0 ≤ k) : a.fdiv k = a / k := Int.fdiv_eq_ediv_of_nonneg _ hk
abbrev v3 (a b c : Int) : RT Value := .l (.tuple ⟨[.int .i64 a, .int .i64 b, .int .i64 c]⟩)
def guT (a m : Int) : RT Value := .b 4 (decide (a < 64) == true) (.b 3 (decide (bits .and .u8 a 7 < 2)) (v3 ((IntKind.i64.wrap (IntKind.i64.wrap (a.fdiv 8) + 2))) ((rgs m (bits .and .u8 a 1 == 1))) ((rgs (m.fdiv 8) (bits .and .u8 a 1 == 1)))) (.t 0 (decide (a < 64) == true) (.b 3 (bits .and .u8 a 7 == 2) (v3 ((IntKind.i64.wrap (IntKind.i64.wrap (a.fdiv 8) + 2))) ((rgs (m.fdiv 8) (bits .and .u8 a 1 == 1))) 17) (.t 0 (decide (a < 64) == true) (.b 3 (bits .and .u8 a 7 == 4) (v3 ((IntKind.i64.wrap (IntKind.i64.wrap (a.fdiv 8) + 2))) 1 20) (.b 0 (a == 39) (v3 22 0 0) (.b 1 (a.fdiv 16 == 4) (v3 ((IntKind.i64.wrap (10 + IntKind.i64.wrap (bits .and .u8 (a.fdiv 8) 1)))) ((rgs a true)) 0) (.b 1 (a.fdiv 16 == 5) (v3 ((IntKind.i64.wrap (18 + IntKind.i64.wrap (bits .and .u8 (a.fdiv 8) 1)))) ((rgs a true)) 0) (.b 1 (a.fdiv 16 == 7) (v3 ((IntKind.i64.wrap (40 + IntKind.i64.wrap (bits .and .u8 a 15)))) 20 0) (.f 0 (a == 128) (.f 0 (a == 134) (.f 0 (a == 135) (.b 1 (a.fdiv 8 == 22) (v3 1 ((rgs a false)) 20) (.b 1 (a.fdiv 8 == 23) (v3 1 ((rgs a true)) 20) (.f 0 (a == 198) (.f 0 (a == 208) (.f 0 (a == 209) (.f 0 (a == 246) (.f 0 ((a == 254) == true) (.f 4 (a == 254) (.b 0 (bits .and .u8 a 252 == 136) (.b 1 (m.fdiv 64 == 3) (.b 0 (bits .and .u8 a 2 == 0) (v3 1 ((rgs m (bits .and .u8 a 1 == 1))) ((rgs (m.fdiv 8) (bits .and .u8 a 1 == 1)))) (v3 1 ((rgs (m.fdiv 8) (bits .and .u8 a 1 == 1))) ((rgs m (bits .and .u8 a 1 == 1))))) (.b 0 (bits .and .u8 m 7 == 7) (.b 0 (bits .and .u8 a 2 == 0) (v3 1 17 ((rgs (m.fdiv 8) (bits .and .u8 a 1 == 1)))) (v3 1 ((rgs (m.fdiv 8) (bits .and .u8 a 1 == 1))) 17)) (.b 0 (bits .and .u8 m 7 == 4) (.b 0 (bits .and .u8 a 2 == 0) (v3 1 18 ((rgs (m.fdiv 8) (bits .and .u8 a 1 == 1)))) (v3 1 ((rgs (m.fdiv 8) (bits .and .u8 a 1 == 1))) 18)) (.b 0 (bits .and .u8 m 7 == 6) (.b 0 (bits .and .u8 a 2 == 0) (v3 1 19 ((rgs (m.fdiv 8) (bits .and .u8 a 1 == 1)))) (v3 1 ((rgs (m.fdiv 8) (bits .and .u8 a 1 == 1))) 19)) (.b 0 (bits .and .u8 a 2 == 0) (v3 1 0 ((rgs (m.fdiv 8) (bits .and .u8 a 1 == 1)))) (v3 1 ((rgs (m.fdiv 8) (bits .and .u8 a 1 == 1))) 0)))))) (v3 ((gsAlone a).op) ((gsAlone a).d) ((gsAlone a).s))))))))))))))))))))))) (.f 4 (decide (a < 64) == true) (.f 4 (decide (a < 64) == true) (.f 4 (a == 39) (.b 1 (a.fdiv 16 == 4) (v3 ((IntKind.i64.wrap (10 + IntKind.i64.wrap (bits .and .u8 (a.fdiv 8) 1)))) ((rgs a true)) 0) (.b 1 (a.fdiv 16 == 5) (v3 ((IntKind.i64.wrap (18 + IntKind.i64.wrap (bits .and .u8 (a.fdiv 8) 1)))) ((rgs a true)) 0) (.b 1 (a.fdiv 16 == 7) (v3 ((IntKind.i64.wrap (40 + IntKind.i64.wrap (bits .and .u8 a 15)))) 20 0) (.b 0 (a == 128) (v3 ((IntKind.i64.wrap (IntKind.i64.wrap (bits .and .u8 (m.fdiv 8) 7) + 2))) ((rgs m (bits .and .u8 a 1 == 1))) 20) (.b 0 (a == 134) (.t 0 (a == 134) (v3 17 ((rgs m (bits .and .u8 a 1 == 1))) ((rgs (m.fdiv 8) (bits .and .u8 a 1 == 1))))) (.b 0 (a == 135) (v3 17 ((rgs m (bits .and .u8 a 1 == 1))) ((rgs (m.fdiv 8) (bits .and .u8 a 1 == 1)))) (.b 1 (a.fdiv 8 == 22) (v3 1 ((rgs a false)) 20) (.b 1 (a.fdiv 8 == 23) (v3 1 ((rgs a true)) 20) (.b 0 (a == 198) (v3 1 17 20) (.b 0 (a == 208) (.t 0 (a == 208) (v3 ((IntKind.i64.wrap (12 + IntKind.i64.wrap (bits .and .u8 (m.fdiv 8) 7)))) ((rgs m (bits .and .u8 a 1 == 1))) 0)) (.b 0 (a == 209) (v3 ((IntKind.i64.wrap (12 + IntKind.i64.wrap (bits .and .u8 (m.fdiv 8) 7)))) ((rgs m (bits .and .u8 a 1 == 1))) 0) (.b 0 (a == 246) (v3 16 ((rgs m (bits .and .u8 a 1 == 1))) 0) (.b 0 ((a == 254) == true) (.b 4 (m.fdiv 64 == 0) (v3 ((IntKind.i64.wrap (10 + IntKind.i64.wrap (bits .and .u8 (m.fdiv 8) 7)))) 17 0) (.t 0 (a == 254) (v3 ((IntKind.i64.wrap (10 + IntKind.i64.wrap (bits .and .u8 (m.fdiv 8) 7)))) ((rgs m (bits .and .u8 a 1 == 1))) 0))) (.f 4 (a == 254) (.b 0 (bits .and .u8 a 252 == 136) (.b 1 (m.fdiv 64 == 3) (.b 0 (bits .and .u8 a 2 == 0) (v3 1 ((rgs m (bits .and .u8 a 1 == 1))) ((rgs (m.fdiv 8) (bits .and .u8 a 1 == 1)))) (v3 1 ((rgs (m.fdiv 8) (bits .and .u8 a 1 == 1))) ((rgs m (bits .and .u8 a 1 == 1))))) (.b 0 (bits .and .u8 m 7 == 7) (.b 0 (bits .and .u8 a 2 == 0) (v3 1 17 ((rgs (m.fdiv 8) (bits .and .u8 a 1 == 1)))) (v3 1 ((rgs (m.fdiv 8) (bits .and .u8 a 1 == 1))) 17)) (.b 0 (bits .and .u8 m 7 == 4) (.b 0 (bits .and .u8 a 2 == 0) (v3 1 18 ((rgs (m.fdiv 8) (bits .and .u8 a 1 == 1)))) (v3 1 ((rgs (m.fdiv 8) (bits .and .u8 a 1 == 1))) 18)) (.b 0 (bits .and .u8 m 7 == 6) (.b 0 (bits .and .u8 a 2 == 0) (v3 1 19 ((rgs (m.fdiv 8) (bits .and .u8 a 1 == 1)))) (v3 1 ((rgs (m.fdiv 8) (bits .and .u8 a 1 == 1))) 19)) (.b 0 (bits .and .u8 a 2 == 0) (v3 1 0 ((rgs (m.fdiv 8) (bits .and .u8 a 1 == 1)))) (v3 1 ((rgs (m.fdiv 8) (bits .and .u8 a 1 == 1))) 0)))))) (v3 ((gsAlone a).op) ((gsAlone a).d) ((gsAlone a).s))))))))))))))))))))
theorem gGu : ctxU.fn.get 39 = some Try.f39 := by kernel_rfl
set_option maxHeartbeats 100000000 in
set_option maxRecDepth 100000 in
theorem guess_call (a m : Int) (ha : 0 ≤ a ∧ a ≤ 255) (hm : 0 ≤ m ∧ m ≤ 255) : LCalls Try.prog 39 [.int .u8 a, .int .u8 m] H0 (fun u _ => u = t3V (gs a m)) := by
  have e8 := fdv a ha 8 (by omega)
  have e16 := fdv a ha 16 (by omega)
  have g8 := fdv m hm 8 (by omega)
  have g64 := fdv m hm 64 (by omega)
  have k1 := a1 a ha
  have k2 := a2 a ha
  have k3 := a252 a ha
  have k4 := a15 a ha
  have k7 := and7 a
  have k8 := and7 m
  have k5 := a1 (a / 8) (by omega)
  have k6 := and7 (m / 8)
  have r1 : IntKind.i64.wrap (IntKind.i64.wrap (a / 8) + 2) = a / 8 + 2 := by rw [IntKind.wrap_i64, IntKind.wrap_i64]; omega
  have r2 : IntKind.i64.wrap (10 + IntKind.i64.wrap (a / 8 % 2)) = 10 + a / 8 % 2 := by rw [IntKind.wrap_i64, IntKind.wrap_i64]; omega
  have r3 : IntKind.i64.wrap (18 + IntKind.i64.wrap (a / 8 % 2)) = 18 + a / 8 % 2 := by rw [IntKind.wrap_i64, IntKind.wrap_i64]; omega
  have r4 : IntKind.i64.wrap (40 + IntKind.i64.wrap (a % 16)) = 40 + a % 16 := by rw [IntKind.wrap_i64, IntKind.wrap_i64]; omega
  have r5 : IntKind.i64.wrap (IntKind.i64.wrap (m / 8 % 8) + 2) = m / 8 % 8 + 2 := by rw [IntKind.wrap_i64, IntKind.wrap_i64]; omega
  have r6 : IntKind.i64.wrap (12 + IntKind.i64.wrap (m / 8 % 8)) = 12 + m / 8 % 8 := by rw [IntKind.wrap_i64, IntKind.wrap_i64]; omega
  have r7 : IntKind.i64.wrap (10 + IntKind.i64.wrap (m / 8 % 8)) = 10 + m / 8 % 8 := by rw [IntKind.wrap_i64, IntKind.wrap_i64]; omega
  have T : (guT a m).sat (fun v => v = t3V (gs a m)) := by
    unfold guT
    repeat' with_reducible first | refine RT.sl ?_ | refine RT.sb (fun _ => ?_) (fun _ => ?_) | refine RT.st ?_ (fun _ => ?_) | refine RT.sf ?_ (fun _ => ?_)
    all_goals first | assumption | ((try simp only [nz, e8, e16, g8, g64, k1, k2, k3, k4, k5, k6, k7, k8] at *); simp only [t3V, gs, gsMoved, e8, e16, g8, g64, k1, k2, k3, k4, k5, k6, k7, k8, r1, r2, r3, r4, r5, r6, r7, cA, rgs_t, rgs_f, *]; done) | (simp only [nz, decide_eq_true_eq, decide_eq_false_iff_not, beq_eq_false_iff_ne, beq_iff_eq, ne_eq] at *; omega)
  obtain ⟨v, K, u, h1, h2, h3⟩ := MWp.treeG ctxU_ok (n := 900) (T := guT a m) (S := Ly.start Try.f39 [.int .u8 a, .int .u8 m] H0) (leaf := fun v _ => some v) (by kernel_rfl) T
  cases h1
  exact (LCalls_of ctxU_ok gGu (by kernel_rfl) h3).mono (fun u K h => h.1.trans h2)
def guessC (l : List Value) : Option (Bool × Value) := match l with
  | [.int .u8 a, .int .u8 m] => some (by1 a && by1 m, t3V (gs a m))
  | _ => none
theorem guess_ans : Answers Try.prog 39 guessC := by
  intro args g v h hg
  unfold guessC at h
  split at h
  · rename_i a m
    simp only [Option.some.injEq, Prod.mk.injEq] at h
    obtain ⟨rfl, rfl⟩ := h
    simp only [Bool.and_eq_true, by1_iff] at hg
    exact ⟨by simp [plain, plainL], by simp [t3V, plain, plainL], fun w => calls_plain (by simp [VRL, VR]) (fun ρ v' h => plain_eq (by simp [t3V, plain, plainL]) h) (guess_call a m hg.1 hg.2) w⟩
  · cases h
end Go.Proofs.Ytnknopebjdgdjaa.Isa
namespace Go.Proofs.Ytnknopebjdgdjaa.Isa
open Go Go.Ly Go.RowKit
def h1T (d s : Int) : RT Hd := .b 1 (q4 s 0) (.b 7 (q3 (wd d) 0) (.b 8 (q1 (wd d) 16) (.b 2 (q1 (wd d) (wd s)) (.t 2 (in7 (nm s) && in7 (nm d)) (r2 137 (192 + nm s * 8 + nm d) 0)) (.f 2 (q0 (wd d) 8) (.b 3 (q0 d 17) (.b 4 (q1 (wd s) 8) (.t 1 (in7 (nm s) && true) (r2 136 (nm s * 8 + 7) 0)) (.f 0 (q0 d 1) (.f 3 (q0 d 18) (.f 3 (q0 d 1) (.f 3 (q0 d 19) (.t 4 (q0 (wd d) 16) (.t 2 (q3 d 9) (.f 2 (q1 s 19) (.f 0 (q0 d 19) (.f 8 (q0 (wd d) 8) (.t 4 (q0 (wd d) 16) (.f 2 (q1 s 20) (.t 0 (q0 d 17) (.f 2 (q1 s 20) r0)))))))))))))) (.b 4 (q0 d 1) (.f 2 (q1 s 18) (.f 0 (q0 d 18) (.t 3 (q0 d 1) (.f 2 (q1 s 19) (.f 0 (q0 d 19) (.t 4 (q0 (wd d) 16) (.t 2 (q3 d 9) (.f 2 (q1 s 19) (.f 0 (q0 d 19) (.f 8 (q0 (wd d) 8) (.t 4 (q0 (wd d) 16) (.f 2 (q1 s 20) (.f 0 (q0 d 17) r0))))))))))))) (.b 3 (q0 d 18) (.f 2 (q1 s 1) (.f 0 (q0 d 1) (.f 3 (q0 d 19) (.t 4 (q0 (wd d) 16) (.t 2 (q3 d 9) (.f 2 (q1 s 19) (.f 0 (q0 d 19) (.f 8 (q0 (wd d) 8) (.t 4 (q0 (wd d) 16) (.f 2 (q1 s 20) (.f 0 (q0 d 17) r0))))))))))) (.f 3 (q0 d 1) (.b 3 (q0 d 19) (.f 2 (q1 s 1) (.t 1 (q0 (wd d) 16) (.t 2 (q3 d 9) (.f 2 (q1 s 19) (.t 0 (q0 d 19) (.f 4 (q0 (wd s) 16) (.f 4 (q0 (wd d) 8) (.t 4 (q0 (wd d) 16) (.f 2 (q1 s 20) (.f 0 (q0 d 17) r0)))))))))) (.t 4 (q0 (wd d) 16) (.b 2 (q3 d 9) (.f 2 (q1 s 19) (.f 0 (q0 d 19) (.f 8 (q0 (wd d) 8) (.t 4 (q0 (wd d) 16) (.f 2 (q1 s 20) (.f 0 (q0 d 17) r0)))))) (.f 3 (q0 d 19) (.f 8 (q0 (wd d) 8) (.t 4 (q0 (wd d) 16) (.f 2 (q1 s 20) (.f 0 (q0 d 17) r0)))))))))))))) (.b 2 (q1 (wd d) (wd s)) (.t 2 (in7 (nm s) && in7 (nm d)) (r2 136 (192 + nm s * 8 + nm d) 0)) (.b 2 (q0 (wd d) 8) (.f 2 (q1 s 17) (.b 0 (q0 d 17) (.f 4 (q1 (wd s) 8) (.f 0 (q0 d 1) (.f 3 (q0 d 18) (.f 3 (q0 d 1) (.f 3 (q0 d 19) (.f 4 (q0 (wd d) 16) (.f 6 (q0 d 19) (.t 8 (q0 (wd d) 8) (.f 2 (q1 s 20) (.f 1 (q0 (wd d) 16) (.t 3 (q0 d 17) (.f 2 (q1 s 20) r0)))))))))))) (.b 4 (q0 d 1) (.f 2 (q1 s 18) (.f 0 (q0 d 18) (.t 3 (q0 d 1) (.f 2 (q1 s 19) (.f 0 (q0 d 19) (.f 4 (q0 (wd d) 16) (.f 6 (q0 d 19) (.t 8 (q0 (wd d) 8) (.f 2 (q1 s 20) (.f 1 (q0 (wd d) 16) (.f 3 (q0 d 17) r0))))))))))) (.b 3 (q0 d 18) (.f 2 (q1 s 1) (.f 0 (q0 d 1) (.f 3 (q0 d 19) (.f 4 (q0 (wd d) 16) (.f 6 (q0 d 19) (.t 8 (q0 (wd d) 8) (.f 2 (q1 s 20) (.f 1 (q0 (wd d) 16) (.f 3 (q0 d 17) r0))))))))) (.f 3 (q0 d 1) (.b 3 (q0 d 19) (.f 2 (q1 s 1) (.f 1 (q0 (wd d) 16) (.t 6 (q0 d 19) (.b 4 (q0 (wd s) 16) (.t 2 (q2 s 9) (.t 1 (in7 (nm s) && true) (r2 137 (nm s * 8 + 6) 2))) (.t 4 (q0 (wd d) 8) (.f 2 (q1 s 20) (.f 1 (q0 (wd d) 16) (.f 3 (q0 d 17) r0)))))))) (.f 4 (q0 (wd d) 16) (.f 6 (q0 d 19) (.t 8 (q0 (wd d) 8) (.f 2 (q1 s 20) (.f 1 (q0 (wd d) 16) (.f 3 (q0 d 17) r0)))))))))))) (.b 3 (q0 d 17) (.b 4 (q1 (wd s) 8) (.t 1 (in7 (nm s) && true) (r2 136 (nm s * 8 + 7) 0)) (.f 0 (q0 d 1) (.f 3 (q0 d 18) (.f 3 (q0 d 1) (.f 3 (q0 d 19) (.f 4 (q0 (wd d) 16) (.f 6 (q0 d 19) (.f 8 (q0 (wd d) 8) (.f 4 (q0 (wd d) 16) (.t 3 (q0 d 17) (.f 2 (q1 s 20) r0))))))))))) (.b 4 (q0 d 1) (.f 2 (q1 s 18) (.f 0 (q0 d 18) (.t 3 (q0 d 1) (.f 2 (q1 s 19) (.f 0 (q0 d 19) (.f 4 (q0 (wd d) 16) (.f 6 (q0 d 19) (.f 8 (q0 (wd d) 8) (.f 4 (q0 (wd d) 16) (.f 3 (q0 d 17) r0)))))))))) (.b 3 (q0 d 18) (.f 2 (q1 s 1) (.f 0 (q0 d 1) (.f 3 (q0 d 19) (.f 4 (q0 (wd d) 16) (.f 6 (q0 d 19) (.f 8 (q0 (wd d) 8) (.f 4 (q0 (wd d) 16) (.f 3 (q0 d 17) r0)))))))) (.f 3 (q0 d 1) (.b 3 (q0 d 19) (.f 2 (q1 s 1) (.f 1 (q0 (wd d) 16) (.t 6 (q0 d 19) (.b 4 (q0 (wd s) 16) (.t 2 (q2 s 9) (.t 1 (in7 (nm s) && true) (r2 137 (nm s * 8 + 6) 2))) (.f 4 (q0 (wd d) 8) (.f 4 (q0 (wd d) 16) (.f 3 (q0 d 17) r0))))))) (.f 4 (q0 (wd d) 16) (.f 6 (q0 d 19) (.f 8 (q0 (wd d) 8) (.f 4 (q0 (wd d) 16) (.f 3 (q0 d 17) r0))))))))))))) (.f 6 (q1 (wd d) 16) (.f 5 (q0 (wd d) 8) (.b 3 (q0 d 17) (.b 4 (q1 (wd s) 8) (.t 1 (in7 (nm s) && true) (r2 136 (nm s * 8 + 7) 0)) (.f 0 (q0 d 1) (.f 3 (q0 d 18) (.f 3 (q0 d 1) (.f 3 (q0 d 19) (.f 4 (q0 (wd d) 16) (.f 6 (q0 d 19) (.f 8 (q0 (wd d) 8) (.f 4 (q0 (wd d) 16) (.t 3 (q0 d 17) (.f 2 (q1 s 20) r0))))))))))) (.b 4 (q0 d 1) (.f 2 (q1 s 18) (.f 0 (q0 d 18) (.t 3 (q0 d 1) (.f 2 (q1 s 19) (.f 0 (q0 d 19) (.f 4 (q0 (wd d) 16) (.f 6 (q0 d 19) (.f 8 (q0 (wd d) 8) (.f 4 (q0 (wd d) 16) (.f 3 (q0 d 17) r0)))))))))) (.b 3 (q0 d 18) (.f 2 (q1 s 1) (.f 0 (q0 d 1) (.f 3 (q0 d 19) (.f 4 (q0 (wd d) 16) (.f 6 (q0 d 19) (.f 8 (q0 (wd d) 8) (.f 4 (q0 (wd d) 16) (.f 3 (q0 d 17) r0)))))))) (.f 3 (q0 d 1) (.b 3 (q0 d 19) (.f 2 (q1 s 1) (.f 1 (q0 (wd d) 16) (.t 6 (q0 d 19) (.b 4 (q0 (wd s) 16) (.t 2 (q2 s 9) (.t 1 (in7 (nm s) && true) (r2 137 (nm s * 8 + 6) 2))) (.f 4 (q0 (wd d) 8) (.f 4 (q0 (wd d) 16) (.f 3 (q0 d 17) r0))))))) (.f 4 (q0 (wd d) 16) (.f 6 (q0 d 19) (.f 8 (q0 (wd d) 8) (.f 4 (q0 (wd d) 16) (.f 3 (q0 d 17) r0))))))))))))) (.b 7 (q3 (wd d) 0) (.b 8 (q1 (wd d) 16) (.b 2 (q1 (wd d) (wd s)) (.t 2 (in7 (nm s) && in7 (nm d)) (r2 137 (192 + nm s * 8 + nm d) 0)) (.f 2 (q0 (wd d) 8) (.b 3 (q0 d 17) (.b 4 (q1 (wd s) 8) (.t 1 (in7 (nm s) && true) (r2 136 (nm s * 8 + 7) 0)) (.f 0 (q0 d 1) (.f 3 (q0 d 18) (.f 3 (q0 d 1) (.f 3 (q0 d 19) (.t 4 (q0 (wd d) 16) (.t 2 (q3 d 9) (.b 2 (q1 s 19) (.t 1 (in7 (nm d) && true) (r2 139 (nm d * 8 + 6) 2)) (.f 0 (q0 d 19) (.f 8 (q0 (wd d) 8) (.t 4 (q0 (wd d) 16) (.b 2 (q1 s 20) (r1 (bits .or .u8 184 (nm d)) 2) (.t 0 (q0 d 17) (.f 2 (q1 s 20) r0)))))))))))))) (.b 4 (q0 d 1) (.b 2 (q1 s 18) (r2 138 4 0) (.f 0 (q0 d 18) (.t 3 (q0 d 1) (.b 2 (q1 s 19) (r1 160 2) (.f 0 (q0 d 19) (.t 4 (q0 (wd d) 16) (.t 2 (q3 d 9) (.f 2 (q1 s 19) (.f 0 (q0 d 19) (.f 8 (q0 (wd d) 8) (.t 4 (q0 (wd d) 16) (.b 2 (q1 s 20) (r1 (bits .or .u8 184 (nm d)) 2) (.f 0 (q0 d 17) r0))))))))))))) (.b 3 (q0 d 18) (.b 2 (q1 s 1) (r2 136 4 0) (.f 0 (q0 d 1) (.f 3 (q0 d 19) (.t 4 (q0 (wd d) 16) (.t 2 (q3 d 9) (.b 2 (q1 s 19) (.t 1 (in7 (nm d) && true) (r2 139 (nm d * 8 + 6) 2)) (.f 0 (q0 d 19) (.f 8 (q0 (wd d) 8) (.t 4 (q0 (wd d) 16) (.b 2 (q1 s 20) (r1 (bits .or .u8 184 (nm d)) 2) (.f 0 (q0 d 17) r0))))))))))) (.f 3 (q0 d 1) (.b 3 (q0 d 19) (.b 2 (q1 s 1) (r1 162 2) (.t 1 (q0 (wd d) 16) (.t 2 (q3 d 9) (.b 2 (q1 s 19) (.t 1 (in7 (nm d) && true) (r2 139 (nm d * 8 + 6) 2)) (.t 0 (q0 d 19) (.f 4 (q0 (wd s) 16) (.f 4 (q0 (wd d) 8) (.t 4 (q0 (wd d) 16) (.b 2 (q1 s 20) (r1 (bits .or .u8 184 (nm d)) 2) (.f 0 (q0 d 17) r0)))))))))) (.t 4 (q0 (wd d) 16) (.b 2 (q3 d 9) (.b 2 (q1 s 19) (.t 1 (in7 (nm d) && true) (r2 139 (nm d * 8 + 6) 2)) (.f 0 (q0 d 19) (.f 8 (q0 (wd d) 8) (.t 4 (q0 (wd d) 16) (.b 2 (q1 s 20) (r1 (bits .or .u8 184 (nm d)) 2) (.f 0 (q0 d 17) r0)))))) (.f 3 (q0 d 19) (.f 8 (q0 (wd d) 8) (.t 4 (q0 (wd d) 16) (.b 2 (q1 s 20) (r1 (bits .or .u8 184 (nm d)) 2) (.f 0 (q0 d 17) r0)))))))))))))) (.b 2 (q1 (wd d) (wd s)) (.t 2 (in7 (nm s) && in7 (nm d)) (r2 136 (192 + nm s * 8 + nm d) 0)) (.b 2 (q0 (wd d) 8) (.b 2 (q1 s 17) (.t 1 (in7 (nm d) && true) (r2 138 (nm d * 8 + 7) 0)) (.b 0 (q0 d 17) (.f 4 (q1 (wd s) 8) (.f 0 (q0 d 1) (.f 3 (q0 d 18) (.f 3 (q0 d 1) (.f 3 (q0 d 19) (.f 4 (q0 (wd d) 16) (.f 6 (q0 d 19) (.t 8 (q0 (wd d) 8) (.b 2 (q1 s 20) (r1 (bits .or .u8 176 (nm d)) 1) (.f 1 (q0 (wd d) 16) (.t 3 (q0 d 17) (.f 2 (q1 s 20) r0)))))))))))) (.b 4 (q0 d 1) (.b 2 (q1 s 18) (r2 138 4 0) (.f 0 (q0 d 18) (.t 3 (q0 d 1) (.b 2 (q1 s 19) (r1 160 2) (.f 0 (q0 d 19) (.f 4 (q0 (wd d) 16) (.f 6 (q0 d 19) (.t 8 (q0 (wd d) 8) (.b 2 (q1 s 20) (r1 (bits .or .u8 176 (nm d)) 1) (.f 1 (q0 (wd d) 16) (.f 3 (q0 d 17) r0))))))))))) (.b 3 (q0 d 18) (.b 2 (q1 s 1) (r2 136 4 0) (.f 0 (q0 d 1) (.f 3 (q0 d 19) (.f 4 (q0 (wd d) 16) (.f 6 (q0 d 19) (.t 8 (q0 (wd d) 8) (.b 2 (q1 s 20) (r1 (bits .or .u8 176 (nm d)) 1) (.f 1 (q0 (wd d) 16) (.f 3 (q0 d 17) r0))))))))) (.f 3 (q0 d 1) (.b 3 (q0 d 19) (.b 2 (q1 s 1) (r1 162 2) (.f 1 (q0 (wd d) 16) (.t 6 (q0 d 19) (.b 4 (q0 (wd s) 16) (.b 2 (q2 s 9) (.t 1 (in7 (nm s) && true) (r2 137 (nm s * 8 + 6) 2)) (.t 1 (q0 (wd d) 8) (.f 2 (q1 s 20) (.f 1 (q0 (wd d) 16) (.f 3 (q0 d 17) r0))))) (.t 4 (q0 (wd d) 8) (.b 2 (q1 s 20) (r1 (bits .or .u8 176 (nm d)) 1) (.f 1 (q0 (wd d) 16) (.f 3 (q0 d 17) r0)))))))) (.f 4 (q0 (wd d) 16) (.f 6 (q0 d 19) (.t 8 (q0 (wd d) 8) (.b 2 (q1 s 20) (r1 (bits .or .u8 176 (nm d)) 1) (.f 1 (q0 (wd d) 16) (.f 3 (q0 d 17) r0)))))))))))) (.b 3 (q0 d 17) (.b 4 (q1 (wd s) 8) (.t 1 (in7 (nm s) && true) (r2 136 (nm s * 8 + 7) 0)) (.f 0 (q0 d 1) (.f 3 (q0 d 18) (.f 3 (q0 d 1) (.f 3 (q0 d 19) (.f 4 (q0 (wd d) 16) (.f 6 (q0 d 19) (.f 8 (q0 (wd d) 8) (.f 4 (q0 (wd d) 16) (.t 3 (q0 d 17) (.b 2 (q1 s 20) (r2 198 7 1) r0))))))))))) (.b 4 (q0 d 1) (.b 2 (q1 s 18) (r2 138 4 0) (.f 0 (q0 d 18) (.t 3 (q0 d 1) (.b 2 (q1 s 19) (r1 160 2) (.f 0 (q0 d 19) (.f 4 (q0 (wd d) 16) (.f 6 (q0 d 19) (.f 8 (q0 (wd d) 8) (.f 4 (q0 (wd d) 16) (.f 3 (q0 d 17) r0)))))))))) (.b 3 (q0 d 18) (.b 2 (q1 s 1) (r2 136 4 0) (.f 0 (q0 d 1) (.f 3 (q0 d 19) (.f 4 (q0 (wd d) 16) (.f 6 (q0 d 19) (.f 8 (q0 (wd d) 8) (.f 4 (q0 (wd d) 16) (.f 3 (q0 d 17) r0)))))))) (.f 3 (q0 d 1) (.b 3 (q0 d 19) (.b 2 (q1 s 1) (r1 162 2) (.f 1 (q0 (wd d) 16) (.t 6 (q0 d 19) (.b 4 (q0 (wd s) 16) (.b 2 (q2 s 9) (.t 1 (in7 (nm s) && true) (r2 137 (nm s * 8 + 6) 2)) (.f 1 (q0 (wd d) 8) (.f 4 (q0 (wd d) 16) (.f 3 (q0 d 17) r0)))) (.f 4 (q0 (wd d) 8) (.f 4 (q0 (wd d) 16) (.f 3 (q0 d 17) r0))))))) (.f 4 (q0 (wd d) 16) (.f 6 (q0 d 19) (.f 8 (q0 (wd d) 8) (.f 4 (q0 (wd d) 16) (.f 3 (q0 d 17) r0))))))))))))) (.f 6 (q1 (wd d) 16) (.f 5 (q0 (wd d) 8) (.b 3 (q0 d 17) (.b 4 (q1 (wd s) 8) (.t 1 (in7 (nm s) && true) (r2 136 (nm s * 8 + 7) 0)) (.f 0 (q0 d 1) (.f 3 (q0 d 18) (.f 3 (q0 d 1) (.f 3 (q0 d 19) (.f 4 (q0 (wd d) 16) (.f 6 (q0 d 19) (.f 8 (q0 (wd d) 8) (.f 4 (q0 (wd d) 16) (.t 3 (q0 d 17) (.b 2 (q1 s 20) (r2 198 7 1) r0))))))))))) (.b 4 (q0 d 1) (.b 2 (q1 s 18) (r2 138 4 0) (.f 0 (q0 d 18) (.t 3 (q0 d 1) (.b 2 (q1 s 19) (r1 160 2) (.f 0 (q0 d 19) (.f 4 (q0 (wd d) 16) (.f 6 (q0 d 19) (.f 8 (q0 (wd d) 8) (.f 4 (q0 (wd d) 16) (.f 3 (q0 d 17) r0)))))))))) (.b 3 (q0 d 18) (.b 2 (q1 s 1) (r2 136 4 0) (.f 0 (q0 d 1) (.f 3 (q0 d 19) (.f 4 (q0 (wd d) 16) (.f 6 (q0 d 19) (.f 8 (q0 (wd d) 8) (.f 4 (q0 (wd d) 16) (.f 3 (q0 d 17) r0)))))))) (.f 3 (q0 d 1) (.b 3 (q0 d 19) (.b 2 (q1 s 1) (r1 162 2) (.f 1 (q0 (wd d) 16) (.t 6 (q0 d 19) (.b 4 (q0 (wd s) 16) (.b 2 (q2 s 9) (.t 1 (in7 (nm s) && true) (r2 137 (nm s * 8 + 6) 2)) (.f 1 (q0 (wd d) 8) (.f 4 (q0 (wd d) 16) (.f 3 (q0 d 17) r0)))) (.f 4 (q0 (wd d) 8) (.f 4 (q0 (wd d) 16) (.f 3 (q0 d 17) r0))))))) (.f 4 (q0 (wd d) 16) (.f 6 (q0 d 19) (.f 8 (q0 (wd d) 8) (.f 4 (q0 (wd d) 16) (.f 3 (q0 d 17) r0)))))))))))))
set_option maxHeartbeats 100000000 in
set_option maxRecDepth 100000 in
theorem hg0 (d s : Int) : HdCall 1 d s := by
  refine hd_of (T := h1T d s) (by kernel_rfl) ?_
  all_goals first | unfold h1T
  repeat' with_reducible first | refine RT.sl ?_ | refine RT.sb0 (fun _ => ?_) (fun _ => ?_) | refine RT.sb1 (fun _ => ?_) (fun _ => ?_) | refine RT.sb2 (fun _ => ?_) (fun _ => ?_) | refine RT.sb3 (fun _ => ?_) (fun _ => ?_) | refine RT.sb4 (fun _ => ?_) (fun _ => ?_) | refine RT.sb (fun _ => ?_) (fun _ => ?_) | refine RT.st0 ?_ (fun _ => ?_) | refine RT.sf0 ?_ (fun _ => ?_) | refine RT.st1 ?_ (fun _ => ?_) | refine RT.sf1 ?_ (fun _ => ?_) | refine RT.st2 ?_ (fun _ => ?_) | refine RT.sf2 ?_ (fun _ => ?_) | refine RT.st3 ?_ (fun _ => ?_) | refine RT.sf3 ?_ (fun _ => ?_) | refine RT.st4 ?_ (fun _ => ?_) | refine RT.sf4 ?_ (fun _ => ?_) | refine RT.st ?_ (fun _ => ?_) | refine RT.sf ?_ (fun _ => ?_)
  all_goals first | assumption | (simp only [hd, hdTwo, hdPlaces, hdOne, sm, w1, al10, hdN, cA, *]; done) | (first | (simp only [pA] at *; omega) | (simp [nm_in]; done) | (simp_all; done) | (simp_all; omega) | (simp at *; omega)) | ((try simp only [orA]); (try rw [or_w1 d (by simp_all)]); first | (simp only [hd, hdTwo, hdPlaces, hdOne, sm, w1, al10, hdN, cA, *]; first | done | rfl | (simp; done)) | (exfalso; simp only [nz, pA, dA, wA] at *; omega) | (exfalso; simp only [nz, pA, dA] at *; have := wd_ex d; omega) | (simp only [nz, pA, dA] at *; simp_all [hd, hdTwo, hdPlaces, hdOne, sm, w1, al10, hdN]; done))
end Go.Proofs.Ytnknopebjdgdjaa.Isa
namespace Go.Proofs.Ytnknopebjdgdjaa.Isa
open Go Go.Ly Go.RowKit
def h2T (d s : Int) : RT Hd := .b 1 (q4 s 0) (.b 10 (q0 d 0) (.t 6 (q0 d 0) (.t 3 (q2 d 20) r0)) (.f 6 (q0 d 0) (.b 3 (q2 d 20) r0 r0))) (.b 7 (q3 (wd d) 0) (.b 8 (q1 (wd d) 16) (.b 31 (q1 (wd d) (wd s)) (.t 3 (in7 (nm s) && in7 (nm d)) (r2 1 (192 + nm s * 8 + nm d) 0)) (.f 1 (q0 (wd d) 8) (.b 3 (q0 d 1) (.b 2 (q1 s 20) (r1 4 1) (.f 1 (q0 (wd d) 8) r0)) (.f 4 (q0 (wd d) 8) r0)))) (.b 31 (q1 (wd d) (wd s)) (.t 3 (in7 (nm s) && in7 (nm d)) (r2 0 (192 + nm s * 8 + nm d) 0)) (.b 1 (q0 (wd d) 8) (.b 2 (q1 s 17) (.t 2 (in7 (nm d) && true) (r2 2 (nm d * 8 + 7) 0)) (.b 0 (q0 d 1) (.b 2 (q1 s 20) (r1 4 1) (.t 1 (q0 (wd d) 8) (.f 2 (q1 s 20) r0))) (.t 4 (q0 (wd d) 8) (.b 2 (q1 s 20) (.t 1 (true && in7 (nm d)) (r2 128 (192 + nm d) 1)) r0)))) (.b 3 (q0 d 1) (.b 2 (q1 s 20) (r1 4 1) (.f 1 (q0 (wd d) 8) r0)) (.f 4 (q0 (wd d) 8) r0))))) (.f 6 (q1 (wd d) 16) (.f 33 (q0 (wd d) 8) (.b 3 (q0 d 1) (.b 2 (q1 s 20) (r1 4 1) (.f 1 (q0 (wd d) 8) r0)) (.f 4 (q0 (wd d) 8) r0)))))
def h3T (d s : Int) : RT Hd := .b 1 (q4 s 0) (.b 10 (q0 d 0) (.t 6 (q0 d 0) (.t 3 (q2 d 20) r0)) (.f 6 (q0 d 0) (.b 3 (q2 d 20) r0 r0))) (.b 7 (q3 (wd d) 0) (.b 8 (q1 (wd d) 16) (.b 31 (q1 (wd d) (wd s)) (.t 3 (in7 (nm s) && in7 (nm d)) (r2 9 (192 + nm s * 8 + nm d) 0)) (.f 1 (q0 (wd d) 8) (.b 3 (q0 d 1) (.b 2 (q1 s 20) (r1 12 1) (.f 1 (q0 (wd d) 8) r0)) (.f 4 (q0 (wd d) 8) r0)))) (.b 31 (q1 (wd d) (wd s)) (.t 3 (in7 (nm s) && in7 (nm d)) (r2 8 (192 + nm s * 8 + nm d) 0)) (.b 1 (q0 (wd d) 8) (.b 2 (q1 s 17) (.t 2 (in7 (nm d) && true) (r2 10 (nm d * 8 + 7) 0)) (.b 0 (q0 d 1) (.b 2 (q1 s 20) (r1 12 1) (.t 1 (q0 (wd d) 8) (.f 2 (q1 s 20) r0))) (.t 4 (q0 (wd d) 8) (.b 2 (q1 s 20) (.t 1 (true && in7 (nm d)) (r2 128 (200 + nm d) 1)) r0)))) (.b 3 (q0 d 1) (.b 2 (q1 s 20) (r1 12 1) (.f 1 (q0 (wd d) 8) r0)) (.f 4 (q0 (wd d) 8) r0))))) (.f 6 (q1 (wd d) 16) (.f 33 (q0 (wd d) 8) (.b 3 (q0 d 1) (.b 2 (q1 s 20) (r1 12 1) (.f 1 (q0 (wd d) 8) r0)) (.f 4 (q0 (wd d) 8) r0)))))
def h4T (d s : Int) : RT Hd := .b 1 (q4 s 0) (.b 10 (q0 d 0) (.t 6 (q0 d 0) (.t 3 (q2 d 20) r0)) (.f 6 (q0 d 0) (.b 3 (q2 d 20) r0 r0))) (.b 7 (q3 (wd d) 0) (.b 8 (q1 (wd d) 16) (.b 31 (q1 (wd d) (wd s)) (.t 3 (in7 (nm s) && in7 (nm d)) (r2 17 (192 + nm s * 8 + nm d) 0)) (.f 1 (q0 (wd d) 8) (.b 3 (q0 d 1) (.b 2 (q1 s 20) (r1 20 1) (.f 1 (q0 (wd d) 8) r0)) (.f 4 (q0 (wd d) 8) r0)))) (.b 31 (q1 (wd d) (wd s)) (.t 3 (in7 (nm s) && in7 (nm d)) (r2 16 (192 + nm s * 8 + nm d) 0)) (.b 1 (q0 (wd d) 8) (.b 2 (q1 s 17) (.t 2 (in7 (nm d) && true) (r2 18 (nm d * 8 + 7) 0)) (.b 0 (q0 d 1) (.b 2 (q1 s 20) (r1 20 1) (.t 1 (q0 (wd d) 8) (.f 2 (q1 s 20) r0))) (.t 4 (q0 (wd d) 8) (.b 2 (q1 s 20) (.t 1 (true && in7 (nm d)) (r2 128 (208 + nm d) 1)) r0)))) (.b 3 (q0 d 1) (.b 2 (q1 s 20) (r1 20 1) (.f 1 (q0 (wd d) 8) r0)) (.f 4 (q0 (wd d) 8) r0))))) (.f 6 (q1 (wd d) 16) (.f 33 (q0 (wd d) 8) (.b 3 (q0 d 1) (.b 2 (q1 s 20) (r1 20 1) (.f 1 (q0 (wd d) 8) r0)) (.f 4 (q0 (wd d) 8) r0)))))
def h5T (d s : Int) : RT Hd := .b 1 (q4 s 0) (.b 10 (q0 d 0) (.t 6 (q0 d 0) (.t 3 (q2 d 20) r0)) (.f 6 (q0 d 0) (.b 3 (q2 d 20) r0 r0))) (.b 7 (q3 (wd d) 0) (.b 8 (q1 (wd d) 16) (.b 31 (q1 (wd d) (wd s)) (.t 3 (in7 (nm s) && in7 (nm d)) (r2 25 (192 + nm s * 8 + nm d) 0)) (.f 1 (q0 (wd d) 8) (.b 3 (q0 d 1) (.b 2 (q1 s 20) (r1 28 1) (.f 1 (q0 (wd d) 8) r0)) (.f 4 (q0 (wd d) 8) r0)))) (.b 31 (q1 (wd d) (wd s)) (.t 3 (in7 (nm s) && in7 (nm d)) (r2 24 (192 + nm s * 8 + nm d) 0)) (.b 1 (q0 (wd d) 8) (.b 2 (q1 s 17) (.t 2 (in7 (nm d) && true) (r2 26 (nm d * 8 + 7) 0)) (.b 0 (q0 d 1) (.b 2 (q1 s 20) (r1 28 1) (.t 1 (q0 (wd d) 8) (.f 2 (q1 s 20) r0))) (.t 4 (q0 (wd d) 8) (.b 2 (q1 s 20) (.t 1 (true && in7 (nm d)) (r2 128 (216 + nm d) 1)) r0)))) (.b 3 (q0 d 1) (.b 2 (q1 s 20) (r1 28 1) (.f 1 (q0 (wd d) 8) r0)) (.f 4 (q0 (wd d) 8) r0))))) (.f 6 (q1 (wd d) 16) (.f 33 (q0 (wd d) 8) (.b 3 (q0 d 1) (.b 2 (q1 s 20) (r1 28 1) (.f 1 (q0 (wd d) 8) r0)) (.f 4 (q0 (wd d) 8) r0)))))
set_option maxHeartbeats 100000000 in
set_option maxRecDepth 100000 in
theorem hg1 (d s : Int) : HdCall 2 d s ∧ HdCall 3 d s ∧ HdCall 4 d s ∧ HdCall 5 d s := by
  refine ⟨hd_of (T := h2T d s) (by kernel_rfl) ?_, hd_of (T := h3T d s) (by kernel_rfl) ?_, hd_of (T := h4T d s) (by kernel_rfl) ?_, hd_of (T := h5T d s) (by kernel_rfl) ?_⟩
  all_goals first | unfold h2T | unfold h3T | unfold h4T | unfold h5T
  repeat' with_reducible first | refine RT.sl ?_ | refine RT.sb0 (fun _ => ?_) (fun _ => ?_) | refine RT.sb1 (fun _ => ?_) (fun _ => ?_) | refine RT.sb2 (fun _ => ?_) (fun _ => ?_) | refine RT.sb3 (fun _ => ?_) (fun _ => ?_) | refine RT.sb4 (fun _ => ?_) (fun _ => ?_) | refine RT.sb (fun _ => ?_) (fun _ => ?_) | refine RT.st0 ?_ (fun _ => ?_) | refine RT.sf0 ?_ (fun _ => ?_) | refine RT.st1 ?_ (fun _ => ?_) | refine RT.sf1 ?_ (fun _ => ?_) | refine RT.st2 ?_ (fun _ => ?_) | refine RT.sf2 ?_ (fun _ => ?_) | refine RT.st3 ?_ (fun _ => ?_) | refine RT.sf3 ?_ (fun _ => ?_) | refine RT.st4 ?_ (fun _ => ?_) | refine RT.sf4 ?_ (fun _ => ?_) | refine RT.st ?_ (fun _ => ?_) | refine RT.sf ?_ (fun _ => ?_)
  all_goals first | assumption | (simp only [hd, hdTwo, hdPlaces, hdOne, sm, w1, al10, hdN, cA, *]; done) | (first | (simp only [pA] at *; omega) | (simp [nm_in]; done) | (simp_all; done) | (simp_all; omega) | (simp at *; omega)) | ((try simp only [orA]); (try rw [or_w1 d (by simp_all)]); first | (simp only [hd, hdTwo, hdPlaces, hdOne, sm, w1, al10, hdN, cA, *]; first | done | rfl | (simp; done)) | (exfalso; simp only [nz, pA, dA, wA] at *; omega) | (exfalso; simp only [nz, pA, dA] at *; have := wd_ex d; omega) | (simp only [nz, pA, dA] at *; simp_all [hd, hdTwo, hdPlaces, hdOne, sm, w1, al10, hdN]; done))
end Go.Proofs.Ytnknopebjdgdjaa.Isa
end
