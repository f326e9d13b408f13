/- The context in which this seat's laws are run: functions that are closed, and what each answers. -/
import Derived.Test.YtabhfbmaomkmhaaPar
namespace Go.Proofs.Ytabhfbmaomkmhaa
open Go.Lx Go.RowKit
theorem get21 : env.bare.fn.get 21 = some Try.f21 := by kernel_rfl
theorem get28 : env.bare.fn.get 28 = some Try.f28 := by kernel_rfl
theorem run21 (s z a p c : Bool) : (Lx.run env.bare 1000 [] (Lx.start Try.f21 [.agg ⟨[.bool s, .bool z, .bool a, .bool p, .bool c]⟩] H0)).out? = some ([], .agg ⟨[.bool s, .bool z, .bool a, .bool p, .bool c]⟩) := by kernel_rfl
theorem run28 (s z a p c : Bool) : (Lx.run env.bare 1000 [] (Lx.start Try.f28 [.agg ⟨[.bool s, .bool z, .bool a, .bool p, .bool c]⟩] H0)).out? = some ([], .agg ⟨[.bool s, .bool z, .bool a, .bool p, .bool c]⟩) := by kernel_rfl
noncomputable def wcon (f : Nat) (args : List Value) : ER :=
  bif Nat.beq f 12 then conRun env.bare 3000 12 args
  else bif Nat.beq f 37 || Nat.beq f 38 then
    (match args with
    | [.int .u8 b] => .tst (decide (0 ≤ b) && decide (b ≤ 255)) (.val (.bool (par b))) .no
    | _ => .no)
  else bif Nat.beq f 21 || Nat.beq f 28 then
    (match args with
    | [.agg ⟨[.bool s, .bool z, .bool a, .bool p, .bool c]⟩] => .val (.agg ⟨[.bool s, .bool z, .bool a, .bool p, .bool c]⟩)
    | _ => .no)
  else .no
noncomputable def wctx : Ctx := { toEnv := env, con := wcon, opq := fun f => Nat.beq f 12 || (Nat.beq f 37 || (Nat.beq f 38 || (Nat.beq f 21 || Nat.beq f 28))) }
theorem wcon_good (f : Nat) (args : List Value) (ρ : Ren) (args' : List Value) (w : World) (ha : VRL ρ args args') : ConGood Try.prog f args' w (wcon f args) := by
  unfold wcon
  cases h1 : Nat.beq f 12 with
  | true => obtain rfl := Nat.eq_of_beq_eq_true h1; exact conRun_good (Env.bare_ok envOk) 3000 12 args ρ args' w ha
  | false =>
    simp only [cond_false]
    cases h2 : (Nat.beq f 37 || Nat.beq f 38) with
    | true =>
      simp only [cond_true]
      split
      · rename_i b
        simp only [VRL, VR] at ha
        obtain ⟨v', r', rfl, rfl, rfl⟩ := ha
        refine ⟨fun hb => ?_, fun _ => trivial⟩
        simp only [Bool.and_eq_true, decide_eq_true_eq] at hb
        refine ⟨fun ρ => by simp [VR], ?_⟩
        simp only [Bool.or_eq_true] at h2
        rcases h2 with h2 | h2
        · obtain rfl := Nat.eq_of_beq_eq_true h2; exact par37_calls b hb.1 hb.2 w
        · obtain rfl := Nat.eq_of_beq_eq_true h2; exact par38_calls b hb.1 hb.2 w
      · exact trivial
    | false =>
      simp only [cond_false]
      cases h3 : (Nat.beq f 21 || Nat.beq f 28) with
      | false => exact trivial
      | true =>
        simp only [cond_true]
        split
        · rename_i s z a p c
          have hp : plainL [.agg ⟨[.bool s, .bool z, .bool a, .bool p, .bool c]⟩] = true := by simp [plainL, plain]
          obtain rfl := plainL_eq hp ha
          refine ⟨fun ρ => plain_VR _ (by simp [plain, plainL]), ?_⟩
          simp only [Bool.or_eq_true] at h3
          rcases h3 with h3 | h3
          · obtain rfl := Nat.eq_of_beq_eq_true h3
            exact calls_trust (Env.bare_ok envOk) 1000 [] get21 (by kernel_rfl) hp (by simp [plain, plainL]) (run21 s z a p c) trivial w
          · obtain rfl := Nat.eq_of_beq_eq_true h3
            exact calls_trust (Env.bare_ok envOk) 1000 [] get28 (by kernel_rfl) hp (by simp [plain, plainL]) (run28 s z a p c) trivial w
        · exact trivial
theorem wok : wctx.Ok Try.prog := { toOk := envOk, con := wcon_good }
end Go.Proofs.Ytabhfbmaomkmhaa
