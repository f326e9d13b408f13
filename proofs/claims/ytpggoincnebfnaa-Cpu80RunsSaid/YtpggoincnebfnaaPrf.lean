/- Part 6 of the texts that the law needs, laid together. By program (pack.py). -/
import Derived.Test.YtpggoincnebfnaaPre
import Derived.KernelRfl
import Derived.OpenShut
set_option linter.unusedVariables false
set_option linter.unusedSimpArgs false
noncomputable section
namespace Go.Proofs.Ytpggoincnebfnaa
open Go Go.Ly Go.RowKit
def rgK : List KI := ((Ly.run ctxQ 199 (pthN [(25, false)]) (rgS (sameC mz (fun _ => 0) nilV (sls 2 1) nilV (sls 5 1) 3 4 6 [some (outF (fun _ => 0) (fun _ => 0) 1)] [some (outF (fun _ => 0) (fun _ => 0) 1)]))).st rgD).top.k
def rgL (nb : Nat) (os : List (Option LO)) (d : Int) : St := atSt Try.f39 rgK none nb (slots 137 [(0, ptr 0), (1, ptr 1), (6, .int .i64 d)]) (mkH os)
def tL (fp fb : Nat → Int) (q : Nat) (d : Int) : List (Bool × Bool) := [(decide (d < (q : Int)), true), (decide (0 ≤ d) && decide (d < (q : Int)), true), (Nat.blt (0 + d.toNat) q, true), (decide (0 ≤ d) && decide (d < (q : Int)), true), (Nat.blt (0 + d.toNat) q, true), (!(fp (0 + d.toNat) == fp (0 + d.toNat) && (fb (0 + d.toNat) == fb (0 + d.toNat) && true)), false)]
theorem tL_ok {fp fb : Nat → Int} {q : Nat} {d : Int} (h0 : 0 ≤ d) (h1 : d < q) : trusted (tL fp fb q d) := by
  have e : Nat.blt (0 + d.toNat) q = true := by rw [Nat.blt_eq]; omega
  simp [tL, h0, h1, e]
theorem rh_nn (m : Mc) (g f fp fb : Nat → Int) (j n N q : Nat) : haltF [0, 1, 6] rgD (Ly.run ctxQ 199 (pthN [(25, false)]) (rgS (sameC m g nilV (sls 2 q) nilV (sls 5 q) 3 4 6 [some (outF fp fb q)] [some (outF fp fb q)]))) = (true, tN m ++ qq q, true, (Try.f39, rgK, none, 7), slots 137 [(0, ptr 0), (1, ptr 1), (6, .int .i64 0)], mkH (sameC m g nilV (sls 2 q) nilV (sls 5 q) 3 4 6 [some (outF fp fb q)] [some (outF fp fb q)])) := by kernel_rfl
theorem ri_nn (m : Mc) (g f fp fb : Nat → Int) (j n N q : Nat) (d : Int) : haltF [0, 1, 6] rgD (Ly.run ctxQ 44 [(0, true), (0, true), (0, true), (0, true), (0, true), (0, false)] (rgL 7 (sameC m g nilV (sls 2 q) nilV (sls 5 q) 3 4 6 [some (outF fp fb q)] [some (outF fp fb q)]) d)) = (true, tL fp fb q d, true, (Try.f39, rgK, none, 7), slots 137 [(0, ptr 0), (1, ptr 1), (6, .int .i64 (IntKind.i64.wrap (d + 1)))], mkH (sameC m g nilV (sls 2 q) nilV (sls 5 q) 3 4 6 [some (outF fp fb q)] [some (outF fp fb q)])) := by kernel_rfl
theorem rx_nn (m : Mc) (g f fp fb : Nat → Int) (j n N q : Nat) (d : Int) : (Ly.run ctxQ 100 [(0, false)] (rgL 7 (sameC m g nilV (sls 2 q) nilV (sls 5 q) 3 4 6 [some (outF fp fb q)] [some (outF fp fb q)]) d)).end? = some ([(decide (d < (q : Int)), false)], .bool true, mkH (sameC m g nilV (sls 2 q) nilV (sls 5 q) 3 4 6 [some (outF fp fb q)] [some (outF fp fb q)])) := by kernel_rfl
theorem rq_nn (m : Mc) (g f fp fb : Nat → Int) (j n N q : Nat) (hq : q ≤ 9223372036854775806) : ∀ (r : Nat) (d : Int), 0 ≤ d → d ≤ q → (q - d).toNat = r → MWp Try.prog (rgL 7 (sameC m g nilV (sls 2 q) nilV (sls 5 q) 3 4 6 [some (outF fp fb q)] [some (outF fp fb q)]) d) (fun u K => u = .bool true ∧ K = mkH (sameC m g nilV (sls 2 q) nilV (sls 5 q) 3 4 6 [some (outF fp fb q)] [some (outF fp fb q)]))
  | 0, d, h0, h1, hr => MWp.done ctxQ_ok 100 _ (rx_nn m g f fp fb j n N q d) (by simp; omega) ⟨rfl, rfl⟩
  | r + 1, d, h0, h1, hr => by
    have hw : IntKind.i64.wrap (d + 1) = d + 1 := by rw [IntKind.wrap_i64]; omega
    refine MWp.halted ctxQ_ok [0, 1, 6] _ _ (ri_nn m g f fp fb j n N q d) (tL_ok h0 (by omega)) ?_
    rw [hw]
    exact rq_nn m g f fp fb j n N q hq r (d + 1) (by omega) (by omega) (by omega)
theorem rl_nn1 (m : Mc) (g f fp fb : Nat → Int) (j n N q : Nat) (h : j + (n + 1) ≤ N) (hn : n + 1 ≤ 9223372036854775807) (hq : q ≤ 9223372036854775806) : LCalls Try.prog 39 [ptr 0, ptr 1] (mkH (sameC m g nilV (sls 2 q) nilV (sls 5 q) 3 4 6 [some (outF fp fb q)] [some (outF fp fb q)])) (fun u K => u = .bool true ∧ K = mkH (sameC m g nilV (sls 2 q) nilV (sls 5 q) 3 4 6 [some (outF fp fb q)] [some (outF fp fb q)])) := by
  refine LCalls_of ctxQ_ok gRg39 (by kernel_rfl) (MWp.halted ctxQ_ok [0, 1, 6] _ _ (rh_nn m g f fp fb j n N q) (tr_append (tN_ok m) (qq_ok q)) ?_)
  exact rq_nn m g f fp fb j n N q hq _ 0 (by omega) (by omega) rfl
theorem rh_ne (m : Mc) (g f fp fb : Nat → Int) (j n N q : Nat) : haltF [0, 1, 6] rgD (Ly.run ctxQ 199 (pthN [(25, false)]) (rgS (sameC m g nilV (sls 2 q) (empV 1) (sls 5 q) 3 4 6 [some (outF fp fb q)] [some (outF fp fb q)]))) = (true, tN m ++ qq q, true, (Try.f39, rgK, none, 7), slots 137 [(0, ptr 0), (1, ptr 1), (6, .int .i64 0)], mkH (sameC m g nilV (sls 2 q) (empV 1) (sls 5 q) 3 4 6 [some (outF fp fb q)] [some (outF fp fb q)])) := by kernel_rfl
theorem ri_ne (m : Mc) (g f fp fb : Nat → Int) (j n N q : Nat) (d : Int) : haltF [0, 1, 6] rgD (Ly.run ctxQ 44 [(0, true), (0, true), (0, true), (0, true), (0, true), (0, false)] (rgL 7 (sameC m g nilV (sls 2 q) (empV 1) (sls 5 q) 3 4 6 [some (outF fp fb q)] [some (outF fp fb q)]) d)) = (true, tL fp fb q d, true, (Try.f39, rgK, none, 7), slots 137 [(0, ptr 0), (1, ptr 1), (6, .int .i64 (IntKind.i64.wrap (d + 1)))], mkH (sameC m g nilV (sls 2 q) (empV 1) (sls 5 q) 3 4 6 [some (outF fp fb q)] [some (outF fp fb q)])) := by kernel_rfl
theorem rx_ne (m : Mc) (g f fp fb : Nat → Int) (j n N q : Nat) (d : Int) : (Ly.run ctxQ 100 [(0, false)] (rgL 7 (sameC m g nilV (sls 2 q) (empV 1) (sls 5 q) 3 4 6 [some (outF fp fb q)] [some (outF fp fb q)]) d)).end? = some ([(decide (d < (q : Int)), false)], .bool true, mkH (sameC m g nilV (sls 2 q) (empV 1) (sls 5 q) 3 4 6 [some (outF fp fb q)] [some (outF fp fb q)])) := by kernel_rfl
theorem rq_ne (m : Mc) (g f fp fb : Nat → Int) (j n N q : Nat) (hq : q ≤ 9223372036854775806) : ∀ (r : Nat) (d : Int), 0 ≤ d → d ≤ q → (q - d).toNat = r → MWp Try.prog (rgL 7 (sameC m g nilV (sls 2 q) (empV 1) (sls 5 q) 3 4 6 [some (outF fp fb q)] [some (outF fp fb q)]) d) (fun u K => u = .bool true ∧ K = mkH (sameC m g nilV (sls 2 q) (empV 1) (sls 5 q) 3 4 6 [some (outF fp fb q)] [some (outF fp fb q)]))
  | 0, d, h0, h1, hr => MWp.done ctxQ_ok 100 _ (rx_ne m g f fp fb j n N q d) (by simp; omega) ⟨rfl, rfl⟩
  | r + 1, d, h0, h1, hr => by
    have hw : IntKind.i64.wrap (d + 1) = d + 1 := by rw [IntKind.wrap_i64]; omega
    refine MWp.halted ctxQ_ok [0, 1, 6] _ _ (ri_ne m g f fp fb j n N q d) (tL_ok h0 (by omega)) ?_
    rw [hw]
    exact rq_ne m g f fp fb j n N q hq r (d + 1) (by omega) (by omega) (by omega)
theorem rl_ne1 (m : Mc) (g f fp fb : Nat → Int) (j n N q : Nat) (h : j + (n + 1) ≤ N) (hn : n + 1 ≤ 9223372036854775807) (hq : q ≤ 9223372036854775806) : LCalls Try.prog 39 [ptr 0, ptr 1] (mkH (sameC m g nilV (sls 2 q) (empV 1) (sls 5 q) 3 4 6 [some (outF fp fb q)] [some (outF fp fb q)])) (fun u K => u = .bool true ∧ K = mkH (sameC m g nilV (sls 2 q) (empV 1) (sls 5 q) 3 4 6 [some (outF fp fb q)] [some (outF fp fb q)])) := by
  refine LCalls_of ctxQ_ok gRg39 (by kernel_rfl) (MWp.halted ctxQ_ok [0, 1, 6] _ _ (rh_ne m g f fp fb j n N q) (tr_append (tN_ok m) (qq_ok q)) ?_)
  exact rq_ne m g f fp fb j n N q hq _ 0 (by omega) (by omega) rfl
theorem rh_en (m : Mc) (g f fp fb : Nat → Int) (j n N q : Nat) : haltF [0, 1, 6] rgD (Ly.run ctxQ 199 (pthN [(25, false)]) (rgS (sameC m g (empV 0) (sls 2 q) nilV (sls 5 q) 3 4 6 [some (outF fp fb q)] [some (outF fp fb q)]))) = (true, tN m ++ qq q, true, (Try.f39, rgK, none, 7), slots 137 [(0, ptr 0), (1, ptr 1), (6, .int .i64 0)], mkH (sameC m g (empV 0) (sls 2 q) nilV (sls 5 q) 3 4 6 [some (outF fp fb q)] [some (outF fp fb q)])) := by kernel_rfl
theorem ri_en (m : Mc) (g f fp fb : Nat → Int) (j n N q : Nat) (d : Int) : haltF [0, 1, 6] rgD (Ly.run ctxQ 44 [(0, true), (0, true), (0, true), (0, true), (0, true), (0, false)] (rgL 7 (sameC m g (empV 0) (sls 2 q) nilV (sls 5 q) 3 4 6 [some (outF fp fb q)] [some (outF fp fb q)]) d)) = (true, tL fp fb q d, true, (Try.f39, rgK, none, 7), slots 137 [(0, ptr 0), (1, ptr 1), (6, .int .i64 (IntKind.i64.wrap (d + 1)))], mkH (sameC m g (empV 0) (sls 2 q) nilV (sls 5 q) 3 4 6 [some (outF fp fb q)] [some (outF fp fb q)])) := by kernel_rfl
theorem rx_en (m : Mc) (g f fp fb : Nat → Int) (j n N q : Nat) (d : Int) : (Ly.run ctxQ 100 [(0, false)] (rgL 7 (sameC m g (empV 0) (sls 2 q) nilV (sls 5 q) 3 4 6 [some (outF fp fb q)] [some (outF fp fb q)]) d)).end? = some ([(decide (d < (q : Int)), false)], .bool true, mkH (sameC m g (empV 0) (sls 2 q) nilV (sls 5 q) 3 4 6 [some (outF fp fb q)] [some (outF fp fb q)])) := by kernel_rfl
theorem rq_en (m : Mc) (g f fp fb : Nat → Int) (j n N q : Nat) (hq : q ≤ 9223372036854775806) : ∀ (r : Nat) (d : Int), 0 ≤ d → d ≤ q → (q - d).toNat = r → MWp Try.prog (rgL 7 (sameC m g (empV 0) (sls 2 q) nilV (sls 5 q) 3 4 6 [some (outF fp fb q)] [some (outF fp fb q)]) d) (fun u K => u = .bool true ∧ K = mkH (sameC m g (empV 0) (sls 2 q) nilV (sls 5 q) 3 4 6 [some (outF fp fb q)] [some (outF fp fb q)]))
  | 0, d, h0, h1, hr => MWp.done ctxQ_ok 100 _ (rx_en m g f fp fb j n N q d) (by simp; omega) ⟨rfl, rfl⟩
  | r + 1, d, h0, h1, hr => by
    have hw : IntKind.i64.wrap (d + 1) = d + 1 := by rw [IntKind.wrap_i64]; omega
    refine MWp.halted ctxQ_ok [0, 1, 6] _ _ (ri_en m g f fp fb j n N q d) (tL_ok h0 (by omega)) ?_
    rw [hw]
    exact rq_en m g f fp fb j n N q hq r (d + 1) (by omega) (by omega) (by omega)
theorem rl_en1 (m : Mc) (g f fp fb : Nat → Int) (j n N q : Nat) (h : j + (n + 1) ≤ N) (hn : n + 1 ≤ 9223372036854775807) (hq : q ≤ 9223372036854775806) : LCalls Try.prog 39 [ptr 0, ptr 1] (mkH (sameC m g (empV 0) (sls 2 q) nilV (sls 5 q) 3 4 6 [some (outF fp fb q)] [some (outF fp fb q)])) (fun u K => u = .bool true ∧ K = mkH (sameC m g (empV 0) (sls 2 q) nilV (sls 5 q) 3 4 6 [some (outF fp fb q)] [some (outF fp fb q)])) := by
  refine LCalls_of ctxQ_ok gRg39 (by kernel_rfl) (MWp.halted ctxQ_ok [0, 1, 6] _ _ (rh_en m g f fp fb j n N q) (tr_append (tN_ok m) (qq_ok q)) ?_)
  exact rq_en m g f fp fb j n N q hq _ 0 (by omega) (by omega) rfl
theorem rh_ee (m : Mc) (g f fp fb : Nat → Int) (j n N q : Nat) : haltF [0, 1, 6] rgD (Ly.run ctxQ 199 (pthN [(25, false)]) (rgS (sameC m g (empV 0) (sls 2 q) (empV 1) (sls 5 q) 3 4 6 [some (outF fp fb q)] [some (outF fp fb q)]))) = (true, tN m ++ qq q, true, (Try.f39, rgK, none, 7), slots 137 [(0, ptr 0), (1, ptr 1), (6, .int .i64 0)], mkH (sameC m g (empV 0) (sls 2 q) (empV 1) (sls 5 q) 3 4 6 [some (outF fp fb q)] [some (outF fp fb q)])) := by kernel_rfl
theorem ri_ee (m : Mc) (g f fp fb : Nat → Int) (j n N q : Nat) (d : Int) : haltF [0, 1, 6] rgD (Ly.run ctxQ 44 [(0, true), (0, true), (0, true), (0, true), (0, true), (0, false)] (rgL 7 (sameC m g (empV 0) (sls 2 q) (empV 1) (sls 5 q) 3 4 6 [some (outF fp fb q)] [some (outF fp fb q)]) d)) = (true, tL fp fb q d, true, (Try.f39, rgK, none, 7), slots 137 [(0, ptr 0), (1, ptr 1), (6, .int .i64 (IntKind.i64.wrap (d + 1)))], mkH (sameC m g (empV 0) (sls 2 q) (empV 1) (sls 5 q) 3 4 6 [some (outF fp fb q)] [some (outF fp fb q)])) := by kernel_rfl
theorem rx_ee (m : Mc) (g f fp fb : Nat → Int) (j n N q : Nat) (d : Int) : (Ly.run ctxQ 100 [(0, false)] (rgL 7 (sameC m g (empV 0) (sls 2 q) (empV 1) (sls 5 q) 3 4 6 [some (outF fp fb q)] [some (outF fp fb q)]) d)).end? = some ([(decide (d < (q : Int)), false)], .bool true, mkH (sameC m g (empV 0) (sls 2 q) (empV 1) (sls 5 q) 3 4 6 [some (outF fp fb q)] [some (outF fp fb q)])) := by kernel_rfl
theorem rq_ee (m : Mc) (g f fp fb : Nat → Int) (j n N q : Nat) (hq : q ≤ 9223372036854775806) : ∀ (r : Nat) (d : Int), 0 ≤ d → d ≤ q → (q - d).toNat = r → MWp Try.prog (rgL 7 (sameC m g (empV 0) (sls 2 q) (empV 1) (sls 5 q) 3 4 6 [some (outF fp fb q)] [some (outF fp fb q)]) d) (fun u K => u = .bool true ∧ K = mkH (sameC m g (empV 0) (sls 2 q) (empV 1) (sls 5 q) 3 4 6 [some (outF fp fb q)] [some (outF fp fb q)]))
  | 0, d, h0, h1, hr => MWp.done ctxQ_ok 100 _ (rx_ee m g f fp fb j n N q d) (by simp; omega) ⟨rfl, rfl⟩
  | r + 1, d, h0, h1, hr => by
    have hw : IntKind.i64.wrap (d + 1) = d + 1 := by rw [IntKind.wrap_i64]; omega
    refine MWp.halted ctxQ_ok [0, 1, 6] _ _ (ri_ee m g f fp fb j n N q d) (tL_ok h0 (by omega)) ?_
    rw [hw]
    exact rq_ee m g f fp fb j n N q hq r (d + 1) (by omega) (by omega) (by omega)
theorem rl_ee1 (m : Mc) (g f fp fb : Nat → Int) (j n N q : Nat) (h : j + (n + 1) ≤ N) (hn : n + 1 ≤ 9223372036854775807) (hq : q ≤ 9223372036854775806) : LCalls Try.prog 39 [ptr 0, ptr 1] (mkH (sameC m g (empV 0) (sls 2 q) (empV 1) (sls 5 q) 3 4 6 [some (outF fp fb q)] [some (outF fp fb q)])) (fun u K => u = .bool true ∧ K = mkH (sameC m g (empV 0) (sls 2 q) (empV 1) (sls 5 q) 3 4 6 [some (outF fp fb q)] [some (outF fp fb q)])) := by
  refine LCalls_of ctxQ_ok gRg39 (by kernel_rfl) (MWp.halted ctxQ_ok [0, 1, 6] _ _ (rh_ee m g f fp fb j n N q) (tr_append (tN_ok m) (qq_ok q)) ?_)
  exact rq_ee m g f fp fb j n N q hq _ 0 (by omega) (by omega) rfl
theorem rh_rr (m : Mc) (g f fp fb : Nat → Int) (j n N q : Nat) : haltF [0, 1, 6] rgD (Ly.run ctxQ 199 (pthR [(12, false)]) (rgS (sameC m g (inV 2 j (n + 1)) (sls 3 q) (inV 6 j (n + 1)) (sls 7 q) 4 5 8 [some (rowP f N), some (outF fp fb q)] [some (rowR f N), some (outF fp fb q)]))) = (true, tR' m f j n N ++ qq q, true, (Try.f39, rgK, none, 9), slots 137 [(0, ptr 0), (1, ptr 1), (6, .int .i64 0)], mkH (sameC m g (inV 2 j (n + 1)) (sls 3 q) (inV 6 j (n + 1)) (sls 7 q) 4 5 8 [some (rowP f N), some (outF fp fb q)] [some (rowR f N), some (outF fp fb q)])) := by kernel_rfl
theorem ri_rr (m : Mc) (g f fp fb : Nat → Int) (j n N q : Nat) (d : Int) : haltF [0, 1, 6] rgD (Ly.run ctxQ 44 [(0, true), (0, true), (0, true), (0, true), (0, true), (0, false)] (rgL 9 (sameC m g (inV 2 j (n + 1)) (sls 3 q) (inV 6 j (n + 1)) (sls 7 q) 4 5 8 [some (rowP f N), some (outF fp fb q)] [some (rowR f N), some (outF fp fb q)]) d)) = (true, tL fp fb q d, true, (Try.f39, rgK, none, 9), slots 137 [(0, ptr 0), (1, ptr 1), (6, .int .i64 (IntKind.i64.wrap (d + 1)))], mkH (sameC m g (inV 2 j (n + 1)) (sls 3 q) (inV 6 j (n + 1)) (sls 7 q) 4 5 8 [some (rowP f N), some (outF fp fb q)] [some (rowR f N), some (outF fp fb q)])) := by kernel_rfl
theorem rx_rr (m : Mc) (g f fp fb : Nat → Int) (j n N q : Nat) (d : Int) : (Ly.run ctxQ 100 [(0, false)] (rgL 9 (sameC m g (inV 2 j (n + 1)) (sls 3 q) (inV 6 j (n + 1)) (sls 7 q) 4 5 8 [some (rowP f N), some (outF fp fb q)] [some (rowR f N), some (outF fp fb q)]) d)).end? = some ([(decide (d < (q : Int)), false)], .bool true, mkH (sameC m g (inV 2 j (n + 1)) (sls 3 q) (inV 6 j (n + 1)) (sls 7 q) 4 5 8 [some (rowP f N), some (outF fp fb q)] [some (rowR f N), some (outF fp fb q)])) := by kernel_rfl
theorem rq_rr (m : Mc) (g f fp fb : Nat → Int) (j n N q : Nat) (hq : q ≤ 9223372036854775806) : ∀ (r : Nat) (d : Int), 0 ≤ d → d ≤ q → (q - d).toNat = r → MWp Try.prog (rgL 9 (sameC m g (inV 2 j (n + 1)) (sls 3 q) (inV 6 j (n + 1)) (sls 7 q) 4 5 8 [some (rowP f N), some (outF fp fb q)] [some (rowR f N), some (outF fp fb q)]) d) (fun u K => u = .bool true ∧ K = mkH (sameC m g (inV 2 j (n + 1)) (sls 3 q) (inV 6 j (n + 1)) (sls 7 q) 4 5 8 [some (rowP f N), some (outF fp fb q)] [some (rowR f N), some (outF fp fb q)]))
  | 0, d, h0, h1, hr => MWp.done ctxQ_ok 100 _ (rx_rr m g f fp fb j n N q d) (by simp; omega) ⟨rfl, rfl⟩
  | r + 1, d, h0, h1, hr => by
    have hw : IntKind.i64.wrap (d + 1) = d + 1 := by rw [IntKind.wrap_i64]; omega
    refine MWp.halted ctxQ_ok [0, 1, 6] _ _ (ri_rr m g f fp fb j n N q d) (tL_ok h0 (by omega)) ?_
    rw [hw]
    exact rq_rr m g f fp fb j n N q hq r (d + 1) (by omega) (by omega) (by omega)
theorem rl_rr1 (m : Mc) (g f fp fb : Nat → Int) (j n N q : Nat) (h : j + (n + 1) ≤ N) (hn : n + 1 ≤ 9223372036854775807) (hq : q ≤ 9223372036854775806) : LCalls Try.prog 39 [ptr 0, ptr 1] (mkH (sameC m g (inV 2 j (n + 1)) (sls 3 q) (inV 6 j (n + 1)) (sls 7 q) 4 5 8 [some (rowP f N), some (outF fp fb q)] [some (rowR f N), some (outF fp fb q)])) (fun u K => u = .bool true ∧ K = mkH (sameC m g (inV 2 j (n + 1)) (sls 3 q) (inV 6 j (n + 1)) (sls 7 q) 4 5 8 [some (rowP f N), some (outF fp fb q)] [some (rowR f N), some (outF fp fb q)])) := by
  refine LCalls_of ctxQ_ok gRg39 (by kernel_rfl) (MWp.halted ctxQ_ok [0, 1, 6] _ _ (rh_rr m g f fp fb j n N q) (tr_append (tR_ok m h hn) (qq_ok q)) ?_)
  exact rq_rr m g f fp fb j n N q hq _ 0 (by omega) (by omega) rfl
end Go.Proofs.Ytpggoincnebfnaa
namespace Go.Proofs.Ytpggoincnebfnaa
open Go Go.Ly Go.RowKit
structure WeakAt (H K : Heap) (p : Nat) : Prop where
  weak : WeakH H K
  lock : K.lock = H.lock
  next : K.next = H.next
  clean : Ly.Clean K
  old : ∀ i, i ≠ p → K.get i = H.get i
theorem emp_P {H : Heap} {p b rg : Nat} {s : Js} {a : Addr} {c : Nat} {ov : Value} {VO : List Nat} (h : Pm H p b rg s (.slice (some a) 0 c) ov [] VO) (hj : s.j = s.N) (hc : Ly.Clean H) (hp : p < big) :
    ∃ K, WeakAt H K p ∧ Pm K p b rg s (empV p) ov [] VO := by
  have hget := fun i => Heap.get_put (H := H) (o := .cells (cellsPb b rg s.m (empV p) ov) 60) hp i
  have hpb : p ≠ b := by intro e; have := h.nd; simp [e] at this
  refine ⟨H.put p (.cells (cellsPb b rg s.m (empV p) ov) 60), ⟨⟨rfl, rfl, fun i o hi => ?_⟩, rfl, rfl, fun i o hi => ?_, fun i hi => by rw [hget, if_neg hi]⟩, ?_⟩
  · rw [hget] at hi
    split at hi
    · rename_i e; subst e
      simp only [Option.some.injEq] at hi; subst hi
      refine ⟨_, h.cells, OW.cells ?_⟩
      simp only [cellsPb, VWL]
      exact ⟨_, _, VW.refl _, ⟨_, _, VW.refl _, ⟨_, _, VW.refl _, ⟨_, _, VW.refl _, ⟨_, _, VW.refl _, ⟨_, _, VW.refl _, ⟨_, _, VW.refl _, ⟨_, _, VW.refl _, ⟨_, _, VW.refl _, ⟨_, _, VW.refl _, ⟨_, _, VW.refl _, ⟨_, _, VW.refl _, ⟨_, _, VW.refl _, ⟨_, _, VW.refl _, ⟨_, _, VW.refl _, ⟨_, _, VW.refl _, ⟨_, _, VW.refl _, ⟨_, _, VW.empty _ _ _, ⟨_, _, VW.refl _, ⟨_, _, VW.refl _, rfl, rfl⟩, rfl⟩, rfl⟩, rfl⟩, rfl⟩, rfl⟩, rfl⟩, rfl⟩, rfl⟩, rfl⟩, rfl⟩, rfl⟩, rfl⟩, rfl⟩, rfl⟩, rfl⟩, rfl⟩, rfl⟩, rfl⟩, rfl⟩
    · exact ⟨o, hi, OW.refl o⟩
  · rw [hget] at hi
    split at hi
    · simp only [Option.some.injEq] at hi; subst hi
      show noTokL _ = true
      rw [noP, h.out.noTok]; rfl
    · exact hc i o hi
  · refine ⟨by rw [hget, if_pos rfl], by rw [hget, if_neg hpb.symm]; exact h.mem, h.regs, .inl ⟨hj, rfl, .inr ⟨_, _, rfl⟩⟩, h.out.same fun i hi => ?_, h.nd⟩
    rw [hget, if_neg]
    intro e
    exact (List.nodup_append.1 h.nd).2.2 p (by simp) i (by simp [hi]) e.symm
theorem emp_R {H : Heap} {p b rg : Nat} {s : Js} {a : Addr} {c : Nat} {ov : Value} {VO : List Nat} (h : Rm H p b rg s (.slice (some a) 0 c) ov [] VO) (hj : s.j = s.N) (hc : Ly.Clean H) (hp : p < big) :
    ∃ K, WeakAt H K p ∧ Rm K p b rg s (empV p) ov [] VO := by
  have hget := fun i => Heap.get_put (H := H) (o := .cells (cellsRb b rg s.m (empV p) ov) 56) hp i
  have hpb : p ≠ b := by intro e; have := h.nd; simp [e] at this
  have hpr : p ≠ rg := by intro e; have := h.nd; simp [e] at this
  refine ⟨H.put p (.cells (cellsRb b rg s.m (empV p) ov) 56), ⟨⟨rfl, rfl, fun i o hi => ?_⟩, rfl, rfl, fun i o hi => ?_, fun i hi => by rw [hget, if_neg hi]⟩, ?_⟩
  · rw [hget] at hi
    split at hi
    · rename_i e; subst e
      simp only [Option.some.injEq] at hi; subst hi
      refine ⟨_, h.cells, OW.cells ?_⟩
      simp only [cellsRb, VWL]
      exact ⟨_, _, VW.refl _, ⟨_, _, VW.refl _, ⟨_, _, VW.refl _, ⟨_, _, VW.refl _, ⟨_, _, VW.refl _, ⟨_, _, VW.refl _, ⟨_, _, VW.refl _, ⟨_, _, VW.refl _, ⟨_, _, VW.refl _, ⟨_, _, VW.refl _, ⟨_, _, VW.empty _ _ _, ⟨_, _, VW.refl _, ⟨_, _, VW.refl _, rfl, rfl⟩, rfl⟩, rfl⟩, rfl⟩, rfl⟩, rfl⟩, rfl⟩, rfl⟩, rfl⟩, rfl⟩, rfl⟩, rfl⟩, rfl⟩
    · exact ⟨o, hi, OW.refl o⟩
  · rw [hget] at hi
    split at hi
    · simp only [Option.some.injEq] at hi; subst hi
      show noTokL _ = true
      rw [noR, h.out.noTok]; rfl
    · exact hc i o hi
  · refine ⟨by rw [hget, if_pos rfl], by rw [hget, if_neg hpb.symm]; exact h.mem, by rw [hget, if_neg hpr.symm]; exact h.regs, .inl ⟨hj, rfl, .inr ⟨_, _, rfl⟩⟩, h.out.same fun i hi => ?_, h.nd⟩
    rw [hget, if_neg]
    intro e
    exact (List.nodup_append.1 h.nd).2.2 p (by simp) i (by simp [hi]) e.symm
def cdec (p : Prop) : Bool := @decide p (Classical.propDecidable p)
theorem cdec_true {p : Prop} (h : p) : cdec p = true := @decide_eq_true p (Classical.propDecidable p) h
theorem cdec_of {p : Prop} (h : cdec p = true) : p := @of_decide_eq_true p (Classical.propDecidable p) h
end Go.Proofs.Ytpggoincnebfnaa
namespace Go.Proofs.Ytpggoincnebfnaa
open Go Go.Ly Go.RowKit
def IsSame (H : Heap) : Prop := ∃ (m : Mc) (g f fp fb : Nat → Int) (j n N q : Nat), j + (n + 1) ≤ N ∧ n + 1 ≤ 9223372036854775807 ∧ q ≤ 9223372036854775806 ∧ (H = mkH (sameC m g nilV nilV nilV nilV 2 3 4 [] []) ∨ H = mkH (sameC m g nilV (sls 2 q) nilV (sls 5 q) 3 4 6 [some (outF fp fb q)] [some (outF fp fb q)]) ∨ H = mkH (sameC m g nilV nilV (empV 1) nilV 2 3 4 [] []) ∨ H = mkH (sameC m g nilV (sls 2 q) (empV 1) (sls 5 q) 3 4 6 [some (outF fp fb q)] [some (outF fp fb q)]) ∨ H = mkH (sameC m g (empV 0) nilV nilV nilV 2 3 4 [] []) ∨ H = mkH (sameC m g (empV 0) (sls 2 q) nilV (sls 5 q) 3 4 6 [some (outF fp fb q)] [some (outF fp fb q)]) ∨ H = mkH (sameC m g (empV 0) nilV (empV 1) nilV 2 3 4 [] []) ∨ H = mkH (sameC m g (empV 0) (sls 2 q) (empV 1) (sls 5 q) 3 4 6 [some (outF fp fb q)] [some (outF fp fb q)]) ∨ H = mkH (sameC m g (inV 2 j (n + 1)) nilV (inV 5 j (n + 1)) nilV 3 4 6 [some (rowP f N)] [some (rowR f N)]) ∨ H = mkH (sameC m g (inV 2 j (n + 1)) (sls 3 q) (inV 6 j (n + 1)) (sls 7 q) 4 5 8 [some (rowP f N), some (outF fp fb q)] [some (rowR f N), some (outF fp fb q)]))
def conS (H : Heap) (args : List Value) : ER :=
  match args with
  | [.pointer (some ⟨0, 0, none⟩), .pointer (some ⟨1, 0, none⟩)] => .tst (cdec (IsSame H)) (.val (.bool true)) .no
  | _ => .no
theorem conS_good (H : Heap) (args : List Value) : HGood Try.prog 39 args H (conS H args) := by
  unfold conS
  split
  · refine ⟨fun hd => ?_, fun _ => trivial⟩
    obtain ⟨m, g, f, fp, fb, j, n, N, q, h, hn, hq, hH⟩ := cdec_of hd
    rcases hH with rfl | rfl | rfl | rfl | rfl | rfl | rfl | rfl | rfl | rfl
    · exact rl_nn0 m g f fp fb j n N q h hn
    · exact rl_nn1 m g f fp fb j n N q h hn hq
    · exact rl_ne0 m g f fp fb j n N q h hn
    · exact rl_ne1 m g f fp fb j n N q h hn hq
    · exact rl_en0 m g f fp fb j n N q h hn
    · exact rl_en1 m g f fp fb j n N q h hn hq
    · exact rl_ee0 m g f fp fb j n N q h hn
    · exact rl_ee1 m g f fp fb j n N q h hn hq
    · exact rl_rr0 m g f fp fb j n N q h hn
    · exact rl_rr1 m g f fp fb j n N q h hn hq
  · exact trivial
def ctxS : Ctx := ctxQ.withH 39 conS
theorem ctxS_ok : ctxS.Ok Try.prog := ctxQ_ok.withH conS_good
end Go.Proofs.Ytpggoincnebfnaa
namespace Go.Proofs.Ytpggoincnebfnaa
open Go Go.Ly Go.RowKit
def gM (g : Nat → Int) : Rw := Rw.gen 65536 fun i _ => .int .u8 (g (0 + i))
def eqM (g : Nat → Int) : Bool := Nat.beq (gM g).n (gM g).n && eqU (gM g).n (gM g).at (gM g).at
theorem eqM_true (g : Nat → Int) : eqM g = true := by unfold eqM; rw [eqU_true (fun _ _ => rfl), Nat.beq_refl]; rfl
theorem gS15 : ctxS.fn.get 15 = some Try.f15 := by kernel_rfl
theorem sm_nn0 (m : Mc) (g f fp fb : Nat → Int) (j n N q : Nat) : endsAt [] (Ly.run ctxS 3000 [(3, true)] (Ly.start Try.f15 [ptr 0, ptr 1] (mkH (sameC m g nilV nilV nilV nilV 2 3 4 [] [])))) = some ([(cdec (IsSame (mkH (sameC m g nilV nilV nilV nilV 2 3 4 [] []))), true)], .bool (eqM g), 5, []) := by kernel_rfl
theorem sq_nn0 (m : Mc) (g f fp fb : Nat → Int) (j n N q : Nat) (h : j + (n + 1) ≤ N) (hn : n + 1 ≤ 9223372036854775807) (hq : q ≤ 9223372036854775806) : Ly.Ends Try.prog 15 [ptr 0, ptr 1] (sameC m g nilV nilV nilV nilV 2 3 4 [] []) [] (.bool true) 5 [] := by
  have hS : IsSame (mkH (sameC m g nilV nilV nilV nilV 2 3 4 [] [])) := ⟨m, g, f, fp, fb, j, n, N, q, h, hn, hq, .inl rfl⟩
  have e := Ends.of_run ctxS_ok 3000 _ gS15 (by kernel_rfl) (sm_nn0 m g f fp fb j n N q) ⟨cdec_true hS, trivial⟩
  rw [eqM_true] at e
  exact e
theorem sm_nn1 (m : Mc) (g f fp fb : Nat → Int) (j n N q : Nat) : endsAt [] (Ly.run ctxS 3000 [(3, true)] (Ly.start Try.f15 [ptr 0, ptr 1] (mkH (sameC m g nilV (sls 2 q) nilV (sls 5 q) 3 4 6 [some (outF fp fb q)] [some (outF fp fb q)])))) = some ([(cdec (IsSame (mkH (sameC m g nilV (sls 2 q) nilV (sls 5 q) 3 4 6 [some (outF fp fb q)] [some (outF fp fb q)]))), true)], .bool (eqM g), 7, []) := by kernel_rfl
theorem sq_nn1 (m : Mc) (g f fp fb : Nat → Int) (j n N q : Nat) (h : j + (n + 1) ≤ N) (hn : n + 1 ≤ 9223372036854775807) (hq : q ≤ 9223372036854775806) : Ly.Ends Try.prog 15 [ptr 0, ptr 1] (sameC m g nilV (sls 2 q) nilV (sls 5 q) 3 4 6 [some (outF fp fb q)] [some (outF fp fb q)]) [] (.bool true) 7 [] := by
  have hS : IsSame (mkH (sameC m g nilV (sls 2 q) nilV (sls 5 q) 3 4 6 [some (outF fp fb q)] [some (outF fp fb q)])) := ⟨m, g, f, fp, fb, j, n, N, q, h, hn, hq, .inr (.inl rfl)⟩
  have e := Ends.of_run ctxS_ok 3000 _ gS15 (by kernel_rfl) (sm_nn1 m g f fp fb j n N q) ⟨cdec_true hS, trivial⟩
  rw [eqM_true] at e
  exact e
theorem sm_ne0 (m : Mc) (g f fp fb : Nat → Int) (j n N q : Nat) : endsAt [] (Ly.run ctxS 3000 [(3, true)] (Ly.start Try.f15 [ptr 0, ptr 1] (mkH (sameC m g nilV nilV (empV 1) nilV 2 3 4 [] [])))) = some ([(cdec (IsSame (mkH (sameC m g nilV nilV (empV 1) nilV 2 3 4 [] []))), true)], .bool (eqM g), 5, []) := by kernel_rfl
theorem sq_ne0 (m : Mc) (g f fp fb : Nat → Int) (j n N q : Nat) (h : j + (n + 1) ≤ N) (hn : n + 1 ≤ 9223372036854775807) (hq : q ≤ 9223372036854775806) : Ly.Ends Try.prog 15 [ptr 0, ptr 1] (sameC m g nilV nilV (empV 1) nilV 2 3 4 [] []) [] (.bool true) 5 [] := by
  have hS : IsSame (mkH (sameC m g nilV nilV (empV 1) nilV 2 3 4 [] [])) := ⟨m, g, f, fp, fb, j, n, N, q, h, hn, hq, .inr (.inr (.inl rfl))⟩
  have e := Ends.of_run ctxS_ok 3000 _ gS15 (by kernel_rfl) (sm_ne0 m g f fp fb j n N q) ⟨cdec_true hS, trivial⟩
  rw [eqM_true] at e
  exact e
theorem sm_ne1 (m : Mc) (g f fp fb : Nat → Int) (j n N q : Nat) : endsAt [] (Ly.run ctxS 3000 [(3, true)] (Ly.start Try.f15 [ptr 0, ptr 1] (mkH (sameC m g nilV (sls 2 q) (empV 1) (sls 5 q) 3 4 6 [some (outF fp fb q)] [some (outF fp fb q)])))) = some ([(cdec (IsSame (mkH (sameC m g nilV (sls 2 q) (empV 1) (sls 5 q) 3 4 6 [some (outF fp fb q)] [some (outF fp fb q)]))), true)], .bool (eqM g), 7, []) := by kernel_rfl
theorem sq_ne1 (m : Mc) (g f fp fb : Nat → Int) (j n N q : Nat) (h : j + (n + 1) ≤ N) (hn : n + 1 ≤ 9223372036854775807) (hq : q ≤ 9223372036854775806) : Ly.Ends Try.prog 15 [ptr 0, ptr 1] (sameC m g nilV (sls 2 q) (empV 1) (sls 5 q) 3 4 6 [some (outF fp fb q)] [some (outF fp fb q)]) [] (.bool true) 7 [] := by
  have hS : IsSame (mkH (sameC m g nilV (sls 2 q) (empV 1) (sls 5 q) 3 4 6 [some (outF fp fb q)] [some (outF fp fb q)])) := ⟨m, g, f, fp, fb, j, n, N, q, h, hn, hq, .inr (.inr (.inr (.inl rfl)))⟩
  have e := Ends.of_run ctxS_ok 3000 _ gS15 (by kernel_rfl) (sm_ne1 m g f fp fb j n N q) ⟨cdec_true hS, trivial⟩
  rw [eqM_true] at e
  exact e
theorem sm_en0 (m : Mc) (g f fp fb : Nat → Int) (j n N q : Nat) : endsAt [] (Ly.run ctxS 3000 [(3, true)] (Ly.start Try.f15 [ptr 0, ptr 1] (mkH (sameC m g (empV 0) nilV nilV nilV 2 3 4 [] [])))) = some ([(cdec (IsSame (mkH (sameC m g (empV 0) nilV nilV nilV 2 3 4 [] []))), true)], .bool (eqM g), 5, []) := by kernel_rfl
theorem sq_en0 (m : Mc) (g f fp fb : Nat → Int) (j n N q : Nat) (h : j + (n + 1) ≤ N) (hn : n + 1 ≤ 9223372036854775807) (hq : q ≤ 9223372036854775806) : Ly.Ends Try.prog 15 [ptr 0, ptr 1] (sameC m g (empV 0) nilV nilV nilV 2 3 4 [] []) [] (.bool true) 5 [] := by
  have hS : IsSame (mkH (sameC m g (empV 0) nilV nilV nilV 2 3 4 [] [])) := ⟨m, g, f, fp, fb, j, n, N, q, h, hn, hq, .inr (.inr (.inr (.inr (.inl rfl))))⟩
  have e := Ends.of_run ctxS_ok 3000 _ gS15 (by kernel_rfl) (sm_en0 m g f fp fb j n N q) ⟨cdec_true hS, trivial⟩
  rw [eqM_true] at e
  exact e
theorem sm_en1 (m : Mc) (g f fp fb : Nat → Int) (j n N q : Nat) : endsAt [] (Ly.run ctxS 3000 [(3, true)] (Ly.start Try.f15 [ptr 0, ptr 1] (mkH (sameC m g (empV 0) (sls 2 q) nilV (sls 5 q) 3 4 6 [some (outF fp fb q)] [some (outF fp fb q)])))) = some ([(cdec (IsSame (mkH (sameC m g (empV 0) (sls 2 q) nilV (sls 5 q) 3 4 6 [some (outF fp fb q)] [some (outF fp fb q)]))), true)], .bool (eqM g), 7, []) := by kernel_rfl
theorem sq_en1 (m : Mc) (g f fp fb : Nat → Int) (j n N q : Nat) (h : j + (n + 1) ≤ N) (hn : n + 1 ≤ 9223372036854775807) (hq : q ≤ 9223372036854775806) : Ly.Ends Try.prog 15 [ptr 0, ptr 1] (sameC m g (empV 0) (sls 2 q) nilV (sls 5 q) 3 4 6 [some (outF fp fb q)] [some (outF fp fb q)]) [] (.bool true) 7 [] := by
  have hS : IsSame (mkH (sameC m g (empV 0) (sls 2 q) nilV (sls 5 q) 3 4 6 [some (outF fp fb q)] [some (outF fp fb q)])) := ⟨m, g, f, fp, fb, j, n, N, q, h, hn, hq, .inr (.inr (.inr (.inr (.inr (.inl rfl)))))⟩
  have e := Ends.of_run ctxS_ok 3000 _ gS15 (by kernel_rfl) (sm_en1 m g f fp fb j n N q) ⟨cdec_true hS, trivial⟩
  rw [eqM_true] at e
  exact e
theorem sm_ee0 (m : Mc) (g f fp fb : Nat → Int) (j n N q : Nat) : endsAt [] (Ly.run ctxS 3000 [(3, true)] (Ly.start Try.f15 [ptr 0, ptr 1] (mkH (sameC m g (empV 0) nilV (empV 1) nilV 2 3 4 [] [])))) = some ([(cdec (IsSame (mkH (sameC m g (empV 0) nilV (empV 1) nilV 2 3 4 [] []))), true)], .bool (eqM g), 5, []) := by kernel_rfl
theorem sq_ee0 (m : Mc) (g f fp fb : Nat → Int) (j n N q : Nat) (h : j + (n + 1) ≤ N) (hn : n + 1 ≤ 9223372036854775807) (hq : q ≤ 9223372036854775806) : Ly.Ends Try.prog 15 [ptr 0, ptr 1] (sameC m g (empV 0) nilV (empV 1) nilV 2 3 4 [] []) [] (.bool true) 5 [] := by
  have hS : IsSame (mkH (sameC m g (empV 0) nilV (empV 1) nilV 2 3 4 [] [])) := ⟨m, g, f, fp, fb, j, n, N, q, h, hn, hq, .inr (.inr (.inr (.inr (.inr (.inr (.inl rfl))))))⟩
  have e := Ends.of_run ctxS_ok 3000 _ gS15 (by kernel_rfl) (sm_ee0 m g f fp fb j n N q) ⟨cdec_true hS, trivial⟩
  rw [eqM_true] at e
  exact e
theorem sm_ee1 (m : Mc) (g f fp fb : Nat → Int) (j n N q : Nat) : endsAt [] (Ly.run ctxS 3000 [(3, true)] (Ly.start Try.f15 [ptr 0, ptr 1] (mkH (sameC m g (empV 0) (sls 2 q) (empV 1) (sls 5 q) 3 4 6 [some (outF fp fb q)] [some (outF fp fb q)])))) = some ([(cdec (IsSame (mkH (sameC m g (empV 0) (sls 2 q) (empV 1) (sls 5 q) 3 4 6 [some (outF fp fb q)] [some (outF fp fb q)]))), true)], .bool (eqM g), 7, []) := by kernel_rfl
theorem sq_ee1 (m : Mc) (g f fp fb : Nat → Int) (j n N q : Nat) (h : j + (n + 1) ≤ N) (hn : n + 1 ≤ 9223372036854775807) (hq : q ≤ 9223372036854775806) : Ly.Ends Try.prog 15 [ptr 0, ptr 1] (sameC m g (empV 0) (sls 2 q) (empV 1) (sls 5 q) 3 4 6 [some (outF fp fb q)] [some (outF fp fb q)]) [] (.bool true) 7 [] := by
  have hS : IsSame (mkH (sameC m g (empV 0) (sls 2 q) (empV 1) (sls 5 q) 3 4 6 [some (outF fp fb q)] [some (outF fp fb q)])) := ⟨m, g, f, fp, fb, j, n, N, q, h, hn, hq, .inr (.inr (.inr (.inr (.inr (.inr (.inr (.inl rfl)))))))⟩
  have e := Ends.of_run ctxS_ok 3000 _ gS15 (by kernel_rfl) (sm_ee1 m g f fp fb j n N q) ⟨cdec_true hS, trivial⟩
  rw [eqM_true] at e
  exact e
theorem sm_rr0 (m : Mc) (g f fp fb : Nat → Int) (j n N q : Nat) : endsAt [] (Ly.run ctxS 3000 [(3, true)] (Ly.start Try.f15 [ptr 0, ptr 1] (mkH (sameC m g (inV 2 j (n + 1)) nilV (inV 5 j (n + 1)) nilV 3 4 6 [some (rowP f N)] [some (rowR f N)])))) = some ([(cdec (IsSame (mkH (sameC m g (inV 2 j (n + 1)) nilV (inV 5 j (n + 1)) nilV 3 4 6 [some (rowP f N)] [some (rowR f N)]))), true)], .bool (eqM g), 7, []) := by kernel_rfl
theorem sq_rr0 (m : Mc) (g f fp fb : Nat → Int) (j n N q : Nat) (h : j + (n + 1) ≤ N) (hn : n + 1 ≤ 9223372036854775807) (hq : q ≤ 9223372036854775806) : Ly.Ends Try.prog 15 [ptr 0, ptr 1] (sameC m g (inV 2 j (n + 1)) nilV (inV 5 j (n + 1)) nilV 3 4 6 [some (rowP f N)] [some (rowR f N)]) [] (.bool true) 7 [] := by
  have hS : IsSame (mkH (sameC m g (inV 2 j (n + 1)) nilV (inV 5 j (n + 1)) nilV 3 4 6 [some (rowP f N)] [some (rowR f N)])) := ⟨m, g, f, fp, fb, j, n, N, q, h, hn, hq, .inr (.inr (.inr (.inr (.inr (.inr (.inr (.inr (.inl rfl))))))))⟩
  have e := Ends.of_run ctxS_ok 3000 _ gS15 (by kernel_rfl) (sm_rr0 m g f fp fb j n N q) ⟨cdec_true hS, trivial⟩
  rw [eqM_true] at e
  exact e
theorem sm_rr1 (m : Mc) (g f fp fb : Nat → Int) (j n N q : Nat) : endsAt [] (Ly.run ctxS 3000 [(3, true)] (Ly.start Try.f15 [ptr 0, ptr 1] (mkH (sameC m g (inV 2 j (n + 1)) (sls 3 q) (inV 6 j (n + 1)) (sls 7 q) 4 5 8 [some (rowP f N), some (outF fp fb q)] [some (rowR f N), some (outF fp fb q)])))) = some ([(cdec (IsSame (mkH (sameC m g (inV 2 j (n + 1)) (sls 3 q) (inV 6 j (n + 1)) (sls 7 q) 4 5 8 [some (rowP f N), some (outF fp fb q)] [some (rowR f N), some (outF fp fb q)]))), true)], .bool (eqM g), 9, []) := by kernel_rfl
theorem sq_rr1 (m : Mc) (g f fp fb : Nat → Int) (j n N q : Nat) (h : j + (n + 1) ≤ N) (hn : n + 1 ≤ 9223372036854775807) (hq : q ≤ 9223372036854775806) : Ly.Ends Try.prog 15 [ptr 0, ptr 1] (sameC m g (inV 2 j (n + 1)) (sls 3 q) (inV 6 j (n + 1)) (sls 7 q) 4 5 8 [some (rowP f N), some (outF fp fb q)] [some (rowR f N), some (outF fp fb q)]) [] (.bool true) 9 [] := by
  have hS : IsSame (mkH (sameC m g (inV 2 j (n + 1)) (sls 3 q) (inV 6 j (n + 1)) (sls 7 q) 4 5 8 [some (rowP f N), some (outF fp fb q)] [some (rowR f N), some (outF fp fb q)])) := ⟨m, g, f, fp, fb, j, n, N, q, h, hn, hq, .inr (.inr (.inr (.inr (.inr (.inr (.inr (.inr (.inr (rfl)))))))))⟩
  have e := Ends.of_run ctxS_ok 3000 _ gS15 (by kernel_rfl) (sm_rr1 m g f fp fb j n N q) ⟨cdec_true hS, trivial⟩
  rw [eqM_true] at e
  exact e
end Go.Proofs.Ytpggoincnebfnaa
namespace Go.Proofs.Ytpggoincnebfnaa
open Go Go.Ly Go.RowKit
structure Sv where
  r0 : Int
  r1 : Int
  r2 : Int
  r3 : Int
  r4 : Int
  r5 : Int
  r6 : Int
  r7 : Int
  fs : Bool
  fz : Bool
  fx : Bool
  fp : Bool
  fc : Bool
  sp : Int
  pc : Int
  ie : Bool
def svV (s : Sv) (i m : Value) : Value := .agg ⟨[.int .u8 s.r0, .int .u8 s.r1, .int .u8 s.r2, .int .u8 s.r3, .int .u8 s.r4, .int .u8 s.r5, .int .u8 s.r6, .int .u8 s.r7, .bool s.fs, .bool s.fz, .bool s.fx, .bool s.fp, .bool s.fc, .int .u16 s.sp, .int .u16 s.pc, .bool s.ie, i, m]⟩
def nilS : Value := .slice none 0 0
end Go.Proofs.Ytpggoincnebfnaa
namespace Go.Proofs.Ytpggoincnebfnaa
open Go Go.Ly Go.RowKit
def Sv.Ok (s : Sv) : Prop := (B8 s.r0 ∧ B8 s.r1 ∧ B8 s.r2 ∧ B8 s.r3 ∧ B8 s.r4 ∧ B8 s.r5 ∧ B8 s.r6 ∧ B8 s.r7) ∧ B16 s.sp ∧ B16 s.pc
theorem ck_bytes2 {w : World} {v : Value} (h : CkOk w (.slice [.int .u16, .int .u8]) v) : v = .slice none 0 0 ∨ ∃ (n : Nat) (a b : Nat → Int) (p : Option Plc),
    RealRows w 2 (fun e j => match j with | 0 => .int .u16 (a e) | _ + 1 => .int .u8 (b e)) n v p ∧ (∀ e, e < n → B16 (a e) ∧ B8 (b e)) ∧ n ≤ maxLen := by
  rcases ck_rows rfl (by decide) h with rfl | ⟨n, F, p, hr, hF, hn⟩
  · exact .inl rfl
  · right
    have key : ∀ e, e < n → ∃ x y, F e = [.int .u16 x, .int .u8 y] ∧ (Lit.int .u16 x).wf = true ∧ (Lit.int .u8 y).wf = true := by
      intro e he
      have := hF e he
      simp only [CksOk, CkOk] at this
      obtain ⟨v1, r1, e1, ⟨x, rfl, hx⟩, v2, r2, rfl, ⟨y, rfl, hy⟩, rfl⟩ := this
      exact ⟨x, y, e1, hx, hy⟩
    refine ⟨n, fun e => intV ((F e)[0]?.getD undef), fun e => intV ((F e)[1]?.getD undef), p, hr.congr (fun e j he hj => ?_), fun e he => ?_, hn⟩
    · obtain ⟨x, y, e1, _, _⟩ := key e he
      have : j = 0 ∨ j = 1 := by simp at hj; omega
      rcases this with rfl | rfl <;> simp [e1, intV]
    · obtain ⟨x, y, e1, hx, hy⟩ := key e he
      simp only [e1, List.getElem?_cons_zero, List.getElem?_cons_succ, Option.getD_some, intV]
      exact ⟨bounds_u16 hx, bounds_u8 hy⟩
theorem ck_in {w : World} {v : Value} (h : CkOk w (.slice [.int .u8]) v) : v = .slice none 0 0 ∨ ∃ (n : Nat) (f : Nat → Int) (p : Option Plc),
    RealRows w 1 (fun e _ => .int .u8 (f e)) n v p ∧ (∀ e, e < n → B8 (f e)) ∧ n ≤ maxLen := by
  rcases ck_rows rfl (by decide) h with rfl | ⟨n, F, p, hr, hF, hn⟩
  · exact .inl rfl
  · right
    have key : ∀ e, e < n → ∃ y, F e = [.int .u8 y] ∧ (Lit.int .u8 y).wf = true := by
      intro e he
      have := hF e he
      simp only [CksOk, CkOk] at this
      obtain ⟨v2, r2, e1, ⟨y, rfl, hy⟩, rfl⟩ := this
      exact ⟨y, e1, hy⟩
    refine ⟨n, fun e => intV ((F e)[0]?.getD undef), p, hr.congr (fun e j he hj => ?_), fun e he => ?_, hn⟩
    · obtain ⟨y, e1, _⟩ := key e he
      have : j = 0 := by simp at hj; omega
      subst this
      simp [e1, intV]
    · obtain ⟨y, e1, hy⟩ := key e he
      simp only [e1, List.getElem?_cons_zero, Option.getD_some, intV]
      exact bounds_u8 hy
def InRow (w : World) (i : Nat) (f : Nat → Int) (n : Nat) (loc v : Value) (p : Option Plc) : Prop := (loc = .slice none 0 0 ∧ v = .slice none 0 0 ∧ n = 0 ∧ p = none) ∨ (loc = sl i n ∧ RealRows w 1 (fun e _ => .int .u8 (f e)) n v p)
theorem sv_open {W : World} {v : Value} (h : ∃ cs, v = .agg ⟨cs⟩ ∧ CksOk W [.int .u8, .int .u8, .int .u8, .int .u8, .int .u8, .int .u8, .int .u8, .int .u8, .bool, .bool, .bool, .bool, .bool, .int .u16, .int .u16, .bool, .slice [.int .u8], .slice [.int .u16, .int .u8]] cs) :
    ∃ (s : Sv) (iv mv : Value), s.Ok ∧ v = svV s iv mv ∧ CkOk W (.slice [.int .u8]) iv ∧ CkOk W (.slice [.int .u16, .int .u8]) mv := by
  obtain ⟨cs, rfl, h⟩ := h
  simp only [CksOk] at h
  obtain ⟨v0, _, rfl, c0, v1, _, rfl, c1, v2, _, rfl, c2, v3, _, rfl, c3, v4, _, rfl, c4, v5, _, rfl, c5, v6, _, rfl, c6, v7, _, rfl, c7, v8, _, rfl, c8, v9, _, rfl, c9, v10, _, rfl, c10, v11, _, rfl, c11, v12, _, rfl, c12, v13, _, rfl, c13, v14, _, rfl, c14, v15, _, rfl, c15, v16, _, rfl, c16, v17, _, rfl, c17, rfl⟩ := h
  simp only [CkOk] at c0 c1 c2 c3 c4 c5 c6 c7 c8 c9 c10 c11 c12 c13 c14 c15
  obtain ⟨n0, rfl, w0⟩ := c0
  obtain ⟨n1, rfl, w1⟩ := c1
  obtain ⟨n2, rfl, w2⟩ := c2
  obtain ⟨n3, rfl, w3⟩ := c3
  obtain ⟨n4, rfl, w4⟩ := c4
  obtain ⟨n5, rfl, w5⟩ := c5
  obtain ⟨n6, rfl, w6⟩ := c6
  obtain ⟨n7, rfl, w7⟩ := c7
  obtain ⟨b8, rfl⟩ := c8
  obtain ⟨b9, rfl⟩ := c9
  obtain ⟨b10, rfl⟩ := c10
  obtain ⟨b11, rfl⟩ := c11
  obtain ⟨b12, rfl⟩ := c12
  obtain ⟨n13, rfl, w13⟩ := c13
  obtain ⟨n14, rfl, w14⟩ := c14
  obtain ⟨b15, rfl⟩ := c15
  exact ⟨⟨n0, n1, n2, n3, n4, n5, n6, n7, b8, b9, b10, b11, b12, n13, n14, b15⟩, v16, v17,
    ⟨⟨bounds_u8 w0, bounds_u8 w1, bounds_u8 w2, bounds_u8 w3, bounds_u8 w4, bounds_u8 w5, bounds_u8 w6, bounds_u8 w7⟩, bounds_u16 w13, bounds_u16 w14⟩, rfl, c16, c17⟩
theorem in_cases {w : World} {v : Value} (h : CkOk w (.slice [.int .u8]) v) : ∃ (f : Nat → Int) (n : Nat) (loc : Value) (p : Option Plc), InRow w 0 f n loc v p ∧ (∀ e, e < n → B8 (f e)) ∧ n ≤ maxLen := by
  rcases ck_in h with rfl | ⟨n, f, p, hr, hf, hn⟩
  · exact ⟨fun _ => 0, 0, .slice none 0 0, none, .inl ⟨rfl, rfl, rfl, rfl⟩, fun e he => by omega, by simp [maxLen]⟩
  · exact ⟨f, n, sl 0 n, p, .inr ⟨rfl, hr⟩, hf, hn⟩
end Go.Proofs.Ytpggoincnebfnaa
namespace Go.Proofs.Ytpggoincnebfnaa
open Go Go.Ly Go.RowKit
def ctxO : Ctx := ctx5.withH 25 memC |>.with 11 aliveC
theorem ctxO_ok : ctxO.Ok Try.prog := (ctx5_ok.withH memC_good).with alive_ans
def ctxH : Ctx := haltAt (haltAt (haltAt (haltAt (haltAt ctxO 13) 14) 15) 16) 17
theorem ctxH_ok : ctxH.Ok Try.prog := haltAt_ok (haltAt_ok (haltAt_ok (haltAt_ok (haltAt_ok ctxO_ok 13) 14) 15) 16) 17
end Go.Proofs.Ytpggoincnebfnaa
namespace Go.Ly
open Go.RowKit
def cleanB (H : Heap) : Nat → Bool
  | 0 => true
  | n + 1 => (match H.get n with | some o => noTokO o | none => true) && cleanB H n
theorem cleanB_spec {H : Heap} : ∀ (n : Nat), cleanB H n = true → ∀ i, i < n → ∀ o, H.get i = some o → noTokO o = true
  | 0, _, i, hi, _, _ => by omega
  | n + 1, h, i, hi, o, ho => by
    simp only [cleanB, Bool.and_eq_true] at h
    rcases Nat.lt_or_ge i n with h1 | h1
    · exact cleanB_spec n h.2 i h1 o ho
    · have : i = n := by omega
      subst this
      have h2 := h.1
      rw [ho] at h2; exact h2
def haltG (keep bs : List Nat) (nx : Nat) (d : St) (r : RO) : Bool × List (Bool × Bool) × Bool × (Func × List KI × Option Tmp × Nat) × List Value × (Bool × Bool × Bool) × List (Option LO) := (r.isHalt, r.trust, (r.st d).rest.isEmpty && Nat.blt (r.st d).top.fn.ntmps 1000000, ((r.st d).top.fn, (r.st d).top.k, (r.st d).top.dst, (r.st d).base), keepV keep (r.st d).top.fn.ntmps (r.st d).top.t, (Nat.beq (r.st d).H.next nx, Nat.beq (r.st d).H.lock 0, cleanB (r.st d).H nx), bs.map (r.st d).H.get)
section
variable {P : Program} {C : Ctx} {Q : Value → Heap → Prop}
theorem MWp.haltG (hC : C.Ok P) {S d : St} {t : List (Bool × Bool)} {fn : Func} {k : List KI} {dst : Option Tmp} {base nx : Nat} {vals : List Value} {os : List (Option LO)} (keep bs : List Nat) (n : Nat) (p : Path)
    (h : Go.Ly.haltG keep bs nx d (run C n p S) = (true, t, true, (fn, k, dst, base), vals, (true, true, true), os)) (ht : trusted t)
    (hs : ∀ H, H.next = nx → H.lock = 0 → Clean H → bs.map H.get = os → MWp P (atSt fn k dst base vals H) Q) : MWp P S Q := by
  simp only [Go.Ly.haltG, Prod.mk.injEq] at h
  obtain ⟨h1, h2, h3, ⟨h4, h5, h6, h7⟩, h8, ⟨h9, h10, h11⟩, h12⟩ := h
  have hn := Nat.eq_of_beq_eq_true h9
  refine MWp.halted (H := ((run C n p S).st d).H) (fn := fn) (k := k) (dst := dst) (base := base) (vals := vals) hC keep n p (d := d) ?_ ht ?_
  · simp only [haltF, Prod.mk.injEq]
    exact ⟨h1, h2, h3, ⟨h4, h5, h6, h7⟩, h8, trivial⟩
  · refine MWp.ltn fun hlt hsm => ?_
    exact hs _ hn (Nat.eq_of_beq_eq_true h10) (fun i o ho => cleanB_spec nx h11 i (by rw [← hn]; exact hlt i o ho) o ho) h12
def haltH (keep bs : List Nat) (nx : Nat) (d : St) (r : RO) : Bool × List (Bool × Bool) × Bool × (Func × List KI × Option Tmp × Nat) × List Value × (Bool × Bool × Bool) × List (Option LO) := forceTr forceO (r.st d).top.t fun t => forceTr forceLO (r.st d).H.m fun hm => (r.isHalt, r.trust, (r.st d).rest.isEmpty && Nat.blt (r.st d).top.fn.ntmps 1000000, ((r.st d).top.fn, (r.st d).top.k, (r.st d).top.dst, (r.st d).base), keepV keep (r.st d).top.fn.ntmps t, (Nat.beq (r.st d).H.next nx, Nat.beq (r.st d).H.lock 0, cleanB { m := hm, next := (r.st d).H.next, lock := (r.st d).H.lock } nx), bs.map (Heap.get { m := hm, next := (r.st d).H.next, lock := (r.st d).H.lock }))
theorem haltH_eq (keep bs : List Nat) (nx : Nat) (d : St) (r : RO) : haltH keep bs nx d r = Go.Ly.haltG keep bs nx d r := by
  unfold haltH Go.Ly.haltG
  rw [forceTr_eq forceO_eq, forceTr_eq forceLO_eq]
theorem MWp.haltH (hC : C.Ok P) {S d : St} {t : List (Bool × Bool)} {fn : Func} {k : List KI} {dst : Option Tmp} {base nx : Nat} {vals : List Value} {os : List (Option LO)} (keep bs : List Nat) (n : Nat) (p : Path)
    (h : Go.Ly.haltH keep bs nx d (run C n p S) = (true, t, true, (fn, k, dst, base), vals, (true, true, true), os)) (ht : trusted t)
    (hs : ∀ H, H.next = nx → H.lock = 0 → Clean H → bs.map H.get = os → MWp P (atSt fn k dst base vals H) Q) : MWp P S Q :=
  MWp.haltG hC keep bs n p (by rw [← haltH_eq]; exact h) ht hs
end
end Go.Ly
namespace Go.Proofs.Ytpggoincnebfnaa
open Go Go.Ly Go.RowKit
def AllAt (H : Heap) (τ : Nat → Nat) : List (Option LO) → List Nat → Prop
  | [], [] => True
  | some o :: r, b :: s => H.get b = some (renO τ o) ∧ AllAt H τ r s
  | none :: r, _ :: s => AllAt H τ r s
  | _, _ => False
theorem AllAt.at_ {H : Heap} {τ : Nat → Nat} : ∀ {os : List (Option LO)} {L : List Nat}, AllAt H τ os L → L.length = os.length ∧ ∀ i o, os[i]? = some (some o) → H.get (sg L i) = some (renO τ o)
  | [], [], _ => ⟨rfl, fun i o h => by simp at h⟩
  | some o :: r, b :: s, h => by
    obtain ⟨h1, h2⟩ := h
    obtain ⟨k1, k2⟩ := AllAt.at_ h2
    refine ⟨by simp [k1], fun i x hi => ?_⟩
    cases i with
    | zero => simp at hi; subst hi; exact h1
    | succ i => exact k2 i x (by simpa using hi)
  | none :: r, b :: s, h => by
    obtain ⟨k1, k2⟩ := AllAt.at_ (os := r) (L := s) h
    refine ⟨by simp [k1], fun i x hi => ?_⟩
    cases i with
    | zero => simp at hi
    | succ i => exact k2 i x (by simpa using hi)
  | [], _ :: _, h => h.elim
  | some _ :: _, [], h => h.elim
  | none :: _, [], h => h.elim
theorem AllAt.nil {H : Heap} {τ : Nat → Nat} : AllAt H τ [] [] := trivial
theorem AllAt.cons {H : Heap} {τ : Nat → Nat} {o o' : LO} {b : Nat} {r : List (Option LO)} {s : List Nat} (h : H.get b = some o') (e : o' = renO τ o) (t : AllAt H τ r s) : AllAt H τ (some o :: r) (b :: s) := ⟨e ▸ h, t⟩
theorem AllAt.sit {H : Heap} {os : List (Option LO)} {L : List Nat} (h : AllAt H (tau L H.next) os L) (hl : H.lock = 0) (hn : L.Nodup) : Sit H os L :=
  ⟨hl, h.at_.1, hn, h.at_.2⟩
theorem same_fit {H : Heap} {os : List (Option LO)} {L : List Nat} {p r nx : Nat} (he : Ly.Ends Try.prog 15 [ptr 0, ptr 1] os [] (.bool true) nx []) (hB : fitB os [] nx = true) (ha : AllAt H (tau L H.next) os L) (hn : L.Nodup) (hl : H.lock = 0)
    (hp : renL (tau L H.next) [ptr 0, ptr 1] = [ptr p, ptr r]) (hb : H.next + nx < big) : LCalls Try.prog 15 [ptr p, ptr r] H (fun u _ => u = .bool true) := by
  have := he.fit hB (ha.sit hl hn) hb
  rw [hp] at this
  exact this.mono (fun u K h => h.1)
def Apart (V V2 : List Nat) : Prop := ∀ i ∈ V, i ∉ V2
theorem sd_nn0 {H : Heap} {p r b rg0 b2 rg : Nat} {s : Js} (hP : Pm H p b rg0 s nilV nilV [] []) (hR : Rm H r b2 rg s nilV nilV [] [])
    (hd : Apart ([p, b] ++ ([] ++ [])) ([r, b2, rg] ++ ([] ++ []))) (hl : H.lock = 0) (hb : H.next + 16 < big) : LCalls Try.prog 15 [ptr p, ptr r] H (fun u _ => u = .bool true) := by
  have n1 := hP.nd
  have n2 := hR.nd
  refine same_fit (L := [p, r, b, rg, b2]) (sq_nn0 s.m s.g s.f s.fp s.fb 0 0 1 0 (by omega) (by omega) (by omega)) (by rfl) ?_ ?_ hl (by kernel_rfl) (by omega)
  · unfold sameC
    simp only [List.cons_append, List.nil_append]
    exact AllAt.cons hP.cells (by kernel_rfl) ( AllAt.cons hR.cells (by kernel_rfl) ( AllAt.cons hP.mem (by kernel_rfl) ( AllAt.cons hR.regs (by kernel_rfl) ( AllAt.cons hR.mem (by kernel_rfl) (AllAt.nil)))))
  · skip
    simp only [Apart, List.nodup_cons, List.mem_cons, List.mem_append, List.cons_append, List.nil_append, List.append_nil, List.not_mem_nil, or_false, not_or, forall_eq_or_imp, forall_eq] at n1 n2 hd ⊢
    simp only [List.nodup_nil, and_true, not_false_iff] at n1 n2 hd ⊢
    grind
theorem sd_nn1 {H : Heap} {p r b rg0 b2 rg : Nat} {s : Js} {y y' : Nat} (hy : H.get y = some (outF s.fp s.fb s.q)) (hy' : H.get y' = some (outF s.fp s.fb s.q)) (hq : s.q ≤ 9223372036854775806) (hP : Pm H p b rg0 s nilV (sls y s.q) [] [y]) (hR : Rm H r b2 rg s nilV (sls y' s.q) [] [y'])
    (hd : Apart ([p, b] ++ ([] ++ [y])) ([r, b2, rg] ++ ([] ++ [y']))) (hl : H.lock = 0) (hb : H.next + 16 < big) : LCalls Try.prog 15 [ptr p, ptr r] H (fun u _ => u = .bool true) := by
  have n1 := hP.nd
  have n2 := hR.nd
  refine same_fit (L := [p, r, y, b, rg, y', b2]) (sq_nn1 s.m s.g s.f s.fp s.fb 0 0 1 s.q (by omega) (by omega) hq) (by rfl) ?_ ?_ hl (by kernel_rfl) (by omega)
  · unfold sameC
    simp only [List.cons_append, List.nil_append]
    exact AllAt.cons hP.cells (by kernel_rfl) ( AllAt.cons hR.cells (by kernel_rfl) ( AllAt.cons hy (by kernel_rfl) ( AllAt.cons hP.mem (by kernel_rfl) ( AllAt.cons hR.regs (by kernel_rfl) ( AllAt.cons hy' (by kernel_rfl) ( AllAt.cons hR.mem (by kernel_rfl) (AllAt.nil)))))))
  · skip
    simp only [Apart, List.nodup_cons, List.mem_cons, List.mem_append, List.cons_append, List.nil_append, List.append_nil, List.not_mem_nil, or_false, not_or, forall_eq_or_imp, forall_eq] at n1 n2 hd ⊢
    simp only [List.nodup_nil, and_true, not_false_iff] at n1 n2 hd ⊢
    grind
theorem sd_ne0 {H : Heap} {p r b rg0 b2 rg : Nat} {s : Js} (hP : Pm H p b rg0 s nilV nilV [] []) (hR : Rm H r b2 rg s (empV r) nilV [] [])
    (hd : Apart ([p, b] ++ ([] ++ [])) ([r, b2, rg] ++ ([] ++ []))) (hl : H.lock = 0) (hb : H.next + 16 < big) : LCalls Try.prog 15 [ptr p, ptr r] H (fun u _ => u = .bool true) := by
  have n1 := hP.nd
  have n2 := hR.nd
  refine same_fit (L := [p, r, b, rg, b2]) (sq_ne0 s.m s.g s.f s.fp s.fb 0 0 1 0 (by omega) (by omega) (by omega)) (by rfl) ?_ ?_ hl (by kernel_rfl) (by omega)
  · unfold sameC
    simp only [List.cons_append, List.nil_append]
    exact AllAt.cons hP.cells (by kernel_rfl) ( AllAt.cons hR.cells (by kernel_rfl) ( AllAt.cons hP.mem (by kernel_rfl) ( AllAt.cons hR.regs (by kernel_rfl) ( AllAt.cons hR.mem (by kernel_rfl) (AllAt.nil)))))
  · skip
    simp only [Apart, List.nodup_cons, List.mem_cons, List.mem_append, List.cons_append, List.nil_append, List.append_nil, List.not_mem_nil, or_false, not_or, forall_eq_or_imp, forall_eq] at n1 n2 hd ⊢
    simp only [List.nodup_nil, and_true, not_false_iff] at n1 n2 hd ⊢
    grind
theorem sd_ne1 {H : Heap} {p r b rg0 b2 rg : Nat} {s : Js} {y y' : Nat} (hy : H.get y = some (outF s.fp s.fb s.q)) (hy' : H.get y' = some (outF s.fp s.fb s.q)) (hq : s.q ≤ 9223372036854775806) (hP : Pm H p b rg0 s nilV (sls y s.q) [] [y]) (hR : Rm H r b2 rg s (empV r) (sls y' s.q) [] [y'])
    (hd : Apart ([p, b] ++ ([] ++ [y])) ([r, b2, rg] ++ ([] ++ [y']))) (hl : H.lock = 0) (hb : H.next + 16 < big) : LCalls Try.prog 15 [ptr p, ptr r] H (fun u _ => u = .bool true) := by
  have n1 := hP.nd
  have n2 := hR.nd
  refine same_fit (L := [p, r, y, b, rg, y', b2]) (sq_ne1 s.m s.g s.f s.fp s.fb 0 0 1 s.q (by omega) (by omega) hq) (by rfl) ?_ ?_ hl (by kernel_rfl) (by omega)
  · unfold sameC
    simp only [List.cons_append, List.nil_append]
    exact AllAt.cons hP.cells (by kernel_rfl) ( AllAt.cons hR.cells (by kernel_rfl) ( AllAt.cons hy (by kernel_rfl) ( AllAt.cons hP.mem (by kernel_rfl) ( AllAt.cons hR.regs (by kernel_rfl) ( AllAt.cons hy' (by kernel_rfl) ( AllAt.cons hR.mem (by kernel_rfl) (AllAt.nil)))))))
  · skip
    simp only [Apart, List.nodup_cons, List.mem_cons, List.mem_append, List.cons_append, List.nil_append, List.append_nil, List.not_mem_nil, or_false, not_or, forall_eq_or_imp, forall_eq] at n1 n2 hd ⊢
    simp only [List.nodup_nil, and_true, not_false_iff] at n1 n2 hd ⊢
    grind
theorem sd_en0 {H : Heap} {p r b rg0 b2 rg : Nat} {s : Js} (hP : Pm H p b rg0 s (empV p) nilV [] []) (hR : Rm H r b2 rg s nilV nilV [] [])
    (hd : Apart ([p, b] ++ ([] ++ [])) ([r, b2, rg] ++ ([] ++ []))) (hl : H.lock = 0) (hb : H.next + 16 < big) : LCalls Try.prog 15 [ptr p, ptr r] H (fun u _ => u = .bool true) := by
  have n1 := hP.nd
  have n2 := hR.nd
  refine same_fit (L := [p, r, b, rg, b2]) (sq_en0 s.m s.g s.f s.fp s.fb 0 0 1 0 (by omega) (by omega) (by omega)) (by rfl) ?_ ?_ hl (by kernel_rfl) (by omega)
  · unfold sameC
    simp only [List.cons_append, List.nil_append]
    exact AllAt.cons hP.cells (by kernel_rfl) ( AllAt.cons hR.cells (by kernel_rfl) ( AllAt.cons hP.mem (by kernel_rfl) ( AllAt.cons hR.regs (by kernel_rfl) ( AllAt.cons hR.mem (by kernel_rfl) (AllAt.nil)))))
  · skip
    simp only [Apart, List.nodup_cons, List.mem_cons, List.mem_append, List.cons_append, List.nil_append, List.append_nil, List.not_mem_nil, or_false, not_or, forall_eq_or_imp, forall_eq] at n1 n2 hd ⊢
    simp only [List.nodup_nil, and_true, not_false_iff] at n1 n2 hd ⊢
    grind
theorem sd_en1 {H : Heap} {p r b rg0 b2 rg : Nat} {s : Js} {y y' : Nat} (hy : H.get y = some (outF s.fp s.fb s.q)) (hy' : H.get y' = some (outF s.fp s.fb s.q)) (hq : s.q ≤ 9223372036854775806) (hP : Pm H p b rg0 s (empV p) (sls y s.q) [] [y]) (hR : Rm H r b2 rg s nilV (sls y' s.q) [] [y'])
    (hd : Apart ([p, b] ++ ([] ++ [y])) ([r, b2, rg] ++ ([] ++ [y']))) (hl : H.lock = 0) (hb : H.next + 16 < big) : LCalls Try.prog 15 [ptr p, ptr r] H (fun u _ => u = .bool true) := by
  have n1 := hP.nd
  have n2 := hR.nd
  refine same_fit (L := [p, r, y, b, rg, y', b2]) (sq_en1 s.m s.g s.f s.fp s.fb 0 0 1 s.q (by omega) (by omega) hq) (by rfl) ?_ ?_ hl (by kernel_rfl) (by omega)
  · unfold sameC
    simp only [List.cons_append, List.nil_append]
    exact AllAt.cons hP.cells (by kernel_rfl) ( AllAt.cons hR.cells (by kernel_rfl) ( AllAt.cons hy (by kernel_rfl) ( AllAt.cons hP.mem (by kernel_rfl) ( AllAt.cons hR.regs (by kernel_rfl) ( AllAt.cons hy' (by kernel_rfl) ( AllAt.cons hR.mem (by kernel_rfl) (AllAt.nil)))))))
  · skip
    simp only [Apart, List.nodup_cons, List.mem_cons, List.mem_append, List.cons_append, List.nil_append, List.append_nil, List.not_mem_nil, or_false, not_or, forall_eq_or_imp, forall_eq] at n1 n2 hd ⊢
    simp only [List.nodup_nil, and_true, not_false_iff] at n1 n2 hd ⊢
    grind
theorem sd_ee0 {H : Heap} {p r b rg0 b2 rg : Nat} {s : Js} (hP : Pm H p b rg0 s (empV p) nilV [] []) (hR : Rm H r b2 rg s (empV r) nilV [] [])
    (hd : Apart ([p, b] ++ ([] ++ [])) ([r, b2, rg] ++ ([] ++ []))) (hl : H.lock = 0) (hb : H.next + 16 < big) : LCalls Try.prog 15 [ptr p, ptr r] H (fun u _ => u = .bool true) := by
  have n1 := hP.nd
  have n2 := hR.nd
  refine same_fit (L := [p, r, b, rg, b2]) (sq_ee0 s.m s.g s.f s.fp s.fb 0 0 1 0 (by omega) (by omega) (by omega)) (by rfl) ?_ ?_ hl (by kernel_rfl) (by omega)
  · unfold sameC
    simp only [List.cons_append, List.nil_append]
    exact AllAt.cons hP.cells (by kernel_rfl) ( AllAt.cons hR.cells (by kernel_rfl) ( AllAt.cons hP.mem (by kernel_rfl) ( AllAt.cons hR.regs (by kernel_rfl) ( AllAt.cons hR.mem (by kernel_rfl) (AllAt.nil)))))
  · skip
    simp only [Apart, List.nodup_cons, List.mem_cons, List.mem_append, List.cons_append, List.nil_append, List.append_nil, List.not_mem_nil, or_false, not_or, forall_eq_or_imp, forall_eq] at n1 n2 hd ⊢
    simp only [List.nodup_nil, and_true, not_false_iff] at n1 n2 hd ⊢
    grind
theorem sd_ee1 {H : Heap} {p r b rg0 b2 rg : Nat} {s : Js} {y y' : Nat} (hy : H.get y = some (outF s.fp s.fb s.q)) (hy' : H.get y' = some (outF s.fp s.fb s.q)) (hq : s.q ≤ 9223372036854775806) (hP : Pm H p b rg0 s (empV p) (sls y s.q) [] [y]) (hR : Rm H r b2 rg s (empV r) (sls y' s.q) [] [y'])
    (hd : Apart ([p, b] ++ ([] ++ [y])) ([r, b2, rg] ++ ([] ++ [y']))) (hl : H.lock = 0) (hb : H.next + 16 < big) : LCalls Try.prog 15 [ptr p, ptr r] H (fun u _ => u = .bool true) := by
  have n1 := hP.nd
  have n2 := hR.nd
  refine same_fit (L := [p, r, y, b, rg, y', b2]) (sq_ee1 s.m s.g s.f s.fp s.fb 0 0 1 s.q (by omega) (by omega) hq) (by rfl) ?_ ?_ hl (by kernel_rfl) (by omega)
  · unfold sameC
    simp only [List.cons_append, List.nil_append]
    exact AllAt.cons hP.cells (by kernel_rfl) ( AllAt.cons hR.cells (by kernel_rfl) ( AllAt.cons hy (by kernel_rfl) ( AllAt.cons hP.mem (by kernel_rfl) ( AllAt.cons hR.regs (by kernel_rfl) ( AllAt.cons hy' (by kernel_rfl) ( AllAt.cons hR.mem (by kernel_rfl) (AllAt.nil)))))))
  · skip
    simp only [Apart, List.nodup_cons, List.mem_cons, List.mem_append, List.cons_append, List.nil_append, List.append_nil, List.not_mem_nil, or_false, not_or, forall_eq_or_imp, forall_eq] at n1 n2 hd ⊢
    simp only [List.nodup_nil, and_true, not_false_iff] at n1 n2 hd ⊢
    grind
theorem sd_rr0 {H : Heap} {p r b rg0 b2 rg : Nat} {s : Js} {x x' n : Nat} (hn : s.N - s.j = n + 1) (hx : H.get x = some (rowP s.f s.N)) (hx' : H.get x' = some (rowR s.f s.N)) (hjN : s.j + (n + 1) ≤ s.N) (hnn : n + 1 ≤ 9223372036854775807) (hP : Pm H p b rg0 s (inV x s.j (n + 1)) nilV [x] []) (hR : Rm H r b2 rg s (inV x' s.j (n + 1)) nilV [x'] [])
    (hd : Apart ([p, b] ++ ([x] ++ [])) ([r, b2, rg] ++ ([x'] ++ []))) (hl : H.lock = 0) (hb : H.next + 16 < big) : LCalls Try.prog 15 [ptr p, ptr r] H (fun u _ => u = .bool true) := by
  have n1 := hP.nd
  have n2 := hR.nd
  refine same_fit (L := [p, r, x, b, rg, x', b2]) (sq_rr0 s.m s.g s.f s.fp s.fb s.j n s.N 0 hjN hnn (by omega)) (by rfl) ?_ ?_ hl (by kernel_rfl) (by omega)
  · unfold sameC
    simp only [List.cons_append, List.nil_append]
    exact AllAt.cons hP.cells (by kernel_rfl) ( AllAt.cons hR.cells (by kernel_rfl) ( AllAt.cons hx (by kernel_rfl) ( AllAt.cons hP.mem (by kernel_rfl) ( AllAt.cons hR.regs (by kernel_rfl) ( AllAt.cons hx' (by kernel_rfl) ( AllAt.cons hR.mem (by kernel_rfl) (AllAt.nil)))))))
  · skip
    simp only [Apart, List.nodup_cons, List.mem_cons, List.mem_append, List.cons_append, List.nil_append, List.append_nil, List.not_mem_nil, or_false, not_or, forall_eq_or_imp, forall_eq] at n1 n2 hd ⊢
    simp only [List.nodup_nil, and_true, not_false_iff] at n1 n2 hd ⊢
    grind
theorem sd_rr1 {H : Heap} {p r b rg0 b2 rg : Nat} {s : Js} {x x' n : Nat} (hn : s.N - s.j = n + 1) (hx : H.get x = some (rowP s.f s.N)) (hx' : H.get x' = some (rowR s.f s.N)) (hjN : s.j + (n + 1) ≤ s.N) (hnn : n + 1 ≤ 9223372036854775807) {y y' : Nat} (hy : H.get y = some (outF s.fp s.fb s.q)) (hy' : H.get y' = some (outF s.fp s.fb s.q)) (hq : s.q ≤ 9223372036854775806) (hP : Pm H p b rg0 s (inV x s.j (n + 1)) (sls y s.q) [x] [y]) (hR : Rm H r b2 rg s (inV x' s.j (n + 1)) (sls y' s.q) [x'] [y'])
    (hd : Apart ([p, b] ++ ([x] ++ [y])) ([r, b2, rg] ++ ([x'] ++ [y']))) (hl : H.lock = 0) (hb : H.next + 16 < big) : LCalls Try.prog 15 [ptr p, ptr r] H (fun u _ => u = .bool true) := by
  have n1 := hP.nd
  have n2 := hR.nd
  refine same_fit (L := [p, r, x, y, b, rg, x', y', b2]) (sq_rr1 s.m s.g s.f s.fp s.fb s.j n s.N s.q hjN hnn hq) (by rfl) ?_ ?_ hl (by kernel_rfl) (by omega)
  · unfold sameC
    simp only [List.cons_append, List.nil_append]
    exact AllAt.cons hP.cells (by kernel_rfl) ( AllAt.cons hR.cells (by kernel_rfl) ( AllAt.cons hx (by kernel_rfl) ( AllAt.cons hy (by kernel_rfl) ( AllAt.cons hP.mem (by kernel_rfl) ( AllAt.cons hR.regs (by kernel_rfl) ( AllAt.cons hx' (by kernel_rfl) ( AllAt.cons hy' (by kernel_rfl) ( AllAt.cons hR.mem (by kernel_rfl) (AllAt.nil)))))))))
  · skip
    simp only [Apart, List.nodup_cons, List.mem_cons, List.mem_append, List.cons_append, List.nil_append, List.append_nil, List.not_mem_nil, or_false, not_or, forall_eq_or_imp, forall_eq] at n1 n2 hd ⊢
    simp only [List.nodup_nil, and_true, not_false_iff] at n1 n2 hd ⊢
    grind
theorem same_calls {H : Heap} {p r : Nat} {s : Js} {O V O2 V2 : List Nat} (hP : PM H p s O V) (hR : RM H r s O2 V2) (hd : Apart V V2) (hl : H.lock = 0) (hc : Ly.Clean H) (hb : H.next + 16 < big)
    (hN : s.N ≤ 9223372036854775807) (hq : s.q ≤ 9223372036854775806) : LCalls Try.prog 15 [ptr p, ptr r] H (fun u _ => u = .bool true) := by
  refine LCalls.ltn fun hlt hsm => ?_
  obtain ⟨b, rg0, iv, ov, VI, VO, hP, rfl, rfl⟩ := hP
  obtain ⟨b2, rg, iv2, ov2, VI2, VO2, hR, rfl, rfl⟩ := hR
  have hp := hlt _ _ hP.cells
  have hr := hlt _ _ hR.cells
  have hpr : p ≠ r := fun e => hd p (by simp) (by simp [e])
  have ends : s.j = s.N → VI = [] ∧ (iv = nilV ∨ ∃ a c, iv = .slice (some a) 0 c) := fun hj => by
    rcases hP.inn with ⟨_, h1, h2⟩ | ⟨h1, _⟩
    · exact ⟨h1, h2⟩
    · omega
  have ends2 : s.j = s.N → VI2 = [] ∧ (iv2 = nilV ∨ ∃ a c, iv2 = .slice (some a) 0 c) := fun hj => by
    rcases hR.inn with ⟨_, h1, h2⟩ | ⟨h1, _⟩
    · exact ⟨h1, h2⟩
    · omega
  by_cases hj : s.j = s.N
  · obtain ⟨rfl, hi1⟩ := ends hj
    obtain ⟨rfl, hi2⟩ := ends2 hj
    -- empty slices made one
    obtain ⟨K, hK, hPK, hRK, hne⟩ : ∃ K, WeakH H K ∧ (Pm K p b rg0 s nilV ov [] VO ∨ Pm K p b rg0 s (empV p) ov [] VO) ∧ (Rm K r b2 rg s nilV ov2 [] VO2 ∨ Rm K r b2 rg s (empV r) ov2 [] VO2) ∧ Ly.Clean K := by
      obtain ⟨K1, w1, c1, h1, o1, e1⟩ : ∃ K, WeakH H K ∧ Ly.Clean K ∧ (Pm K p b rg0 s nilV ov [] VO ∨ Pm K p b rg0 s (empV p) ov [] VO) ∧ (∀ i, i ≠ p → K.get i = H.get i) ∧ K.next = H.next := by
        rcases hi1 with rfl | ⟨a, c, rfl⟩
        · exact ⟨H, WeakH.refl H, hc, .inl hP, fun _ _ => rfl, rfl⟩
        · obtain ⟨K, hw, hk⟩ := emp_P hP hj hc (Nat.lt_trans hp hsm)
          exact ⟨K, hw.weak, hw.clean, .inr hk, hw.old, hw.next⟩
      have hR1 : Rm K1 r b2 rg s iv2 ov2 [] VO2 := by
        have hne : ∀ i ∈ [r, b2, rg] ++ ([] ++ VO2), i ≠ p := fun i hi e => hd p (by simp) (by rw [← e]; exact hi)
        exact ⟨by rw [o1 r (hne r (by simp))]; exact hR.cells, by rw [o1 b2 (hne b2 (by simp))]; exact hR.mem, by rw [o1 rg (hne rg (by simp))]; exact hR.regs,
          hR.inn.same fun i hi => by simp at hi, hR.out.same fun i hi => o1 i (hne i (by simp [hi])), hR.nd⟩
      rcases hi2 with rfl | ⟨a, c, rfl⟩
      · exact ⟨K1, w1, h1, .inl hR1, c1⟩
      · obtain ⟨K, hw, hk⟩ := emp_R hR1 hj c1 (Nat.lt_trans hr hsm)
        have hne : ∀ i ∈ [p, b] ++ ([] ++ VO), i ≠ r := fun i hi e => hd r (by rw [← e]; exact hi) (by simp)
        have wt : WeakH H K := ⟨hw.next.trans w1.next, hw.lock.trans w1.lock, fun i o ho => by
          by_cases e : i = r
          · subst e
            obtain ⟨x, h3, h4⟩ := hw.weak.obj i o ho
            exact ⟨x, by rw [← o1 i (Ne.symm hpr)]; exact h3, h4⟩
          · rw [hw.old i e] at ho
            exact w1.obj i o ho⟩
        have mv : ∀ {iv : Value}, Pm K1 p b rg0 s iv ov [] VO → Pm K p b rg0 s iv ov [] VO := fun h =>
          ⟨by rw [hw.old p (hne p (by simp))]; exact h.cells, by rw [hw.old b (hne b (by simp))]; exact h.mem, trivial,
            h.inn.same fun i hi => by simp at hi, h.out.same fun i hi => hw.old i (hne i (by simp [hi])), h.nd⟩
        exact ⟨K, wt, h1.imp mv mv, .inr hk, hw.clean⟩
    refine LCalls.weak hK ?_
    have hlK : K.lock = 0 := hK.lock.trans hl
    have hbK : K.next + 16 < big := by rw [hK.next]; exact hb
    have o1 : OutAt K ov s.q s.fp s.fb VO := by rcases hPK with h | h <;> exact h.out
    have o2 : OutAt K ov2 s.q s.fp s.fb VO2 := by rcases hRK with h | h <;> exact h.out
    rcases o1 with ⟨h0, rfl, rfl⟩ | ⟨h0, y, rfl, rfl, hy⟩
    · rcases o2 with ⟨_, rfl, rfl⟩ | ⟨h1, _⟩
      · rcases hPK with h | h <;> rcases hRK with h' | h'
        · exact sd_nn0 h h' hd hlK hbK
        · exact sd_ne0 h h' hd hlK hbK
        · exact sd_en0 h h' hd hlK hbK
        · exact sd_ee0 h h' hd hlK hbK
      · omega
    · rcases o2 with ⟨h1, _⟩ | ⟨_, y', rfl, rfl, hy'⟩
      · omega
      · rcases hPK with h | h <;> rcases hRK with h' | h'
        · exact sd_nn1 hy hy' hq h h' hd hlK hbK
        · exact sd_ne1 hy hy' hq h h' hd hlK hbK
        · exact sd_en1 hy hy' hq h h' hd hlK hbK
        · exact sd_ee1 hy hy' hq h h' hd hlK hbK
  · rcases hP.inn with ⟨h1, _⟩ | ⟨h1, x, rfl, rfl, hx⟩
    · exact absurd h1 hj
    rcases hR.inn with ⟨h2, _⟩ | ⟨h2, x', rfl, rfl, hx'⟩
    · exact absurd h2 hj
    obtain ⟨n, hn⟩ : ∃ n, s.N - s.j = n + 1 := ⟨s.N - s.j - 1, by omega⟩
    have hP' := hP
    have hR' := hR
    rw [hn] at hP' hR'
    rcases hP.out with ⟨h0, rfl, rfl⟩ | ⟨h0, y, rfl, rfl, hy⟩
    · rcases hR.out with ⟨_, rfl, rfl⟩ | ⟨h3, _⟩
      · exact sd_rr0 hn hx hx' (by omega) (by omega) hP' hR' hd hl hb
      · omega
    · rcases hR.out with ⟨h3, _⟩ | ⟨_, y', rfl, rfl, hy'⟩
      · omega
      · exact sd_rr1 hn hx hx' (by omega) (by omega) hy hy' hq hP' hR' hd hl hb
end Go.Proofs.Ytpggoincnebfnaa
namespace Go.Proofs.Ytpggoincnebfnaa
open Go Go.Ly Go.RowKit
variable (m : Mc) (g : Nat → Int) (b1 b2 : Int)
theorem p00_0 : endsAt [0, 1] (Ly.run ctx3 3000 [] (sP m g 0 b1 b2)) = some (T [], .int .i64 0, 5, hPm { m with pc := w16 (m.pc + 1) } (memL g)) := by kernel_rfl
theorem r00_0 : endsAt [0, 1, 2] (Ly.run ctx3 3000 [(4, true)] (sR m g 0)) = some (T [inw m.pc && true], .int .i64 0, 3, hRm { m with pc := w16 (m.pc + 1) } (memL g)) := by kernel_rfl
theorem o00 (hm : m.Ok) (hg : ∀ e, B8 (g e)) (hh : m.halt = false) (h0 : g (ix m.pc) = 0) : Both m g := by
  obtain ⟨r0, r1, r2, r3, r4, r5, r7, sp, pc⟩ := id hm
  exact joinA (m' := { m with pc := w16 (m.pc + 1) }) hm hh h0 (p00_0 m g _ _) (r00_0 m g) hg
theorem p01_0 : endsAt [0, 1] (Ly.run ctx3 3000 [] (sP m g 1 b1 b2)) = some (T [], .int .i64 0, 5, hPm { m with pc := w16 (m.pc + 3), r0 := w8 ((or16 (w16 (or16 0 (w16 b2) * 256)) (w16 b1)).fdiv 256), r1 := w8 (or16 (w16 (or16 0 (w16 b2) * 256)) (w16 b1)) } (memL g)) := by kernel_rfl
theorem r01_0 : endsAt [0, 1, 2] (Ly.run ctx3 3000 [(3, true), (0, true), (0, true), (1, true), (0, true), (0, true), (0, true)] (sR m g 1)) = some (T [inw m.pc && true, rg (w16 (m.pc + 1)), bl (ix (w16 (m.pc + 1))), inw m.pc && true, rg (w16 (m.pc + 2)), bl (ix (w16 (m.pc + 2))), inw m.pc && true], .int .i64 0, 3, hRm { m with pc := w16 (m.pc + 3), r0 := w8 ((w16 (w16 (g (ix (w16 (m.pc + 1)))) + w16 (w16 (g (ix (w16 (m.pc + 2)))) * 256))).fdiv 256), r1 := w8 (and16 (w16 (w16 (g (ix (w16 (m.pc + 1)))) + w16 (w16 (g (ix (w16 (m.pc + 2)))) * 256))) 255) } (memL g)) := by kernel_rfl
theorem o01 (hm : m.Ok) (hg : ∀ e, B8 (g e)) (hh : m.halt = false) (h0 : g (ix m.pc) = 1) : Both m g := by
  obtain ⟨r0, r1, r2, r3, r4, r5, r7, sp, pc⟩ := id hm
  exact joinA (m' := { m with pc := w16 (m.pc + 3), r0 := w8 ((or16 (w16 (or16 0 (w16 (g (at1 m.pc 2))) * 256)) (w16 (g (at1 m.pc 1)))).fdiv 256), r1 := w8 (or16 (w16 (or16 0 (w16 (g (at1 m.pc 2))) * 256)) (w16 (g (at1 m.pc 1)))) }) hm hh h0 (p01_0 m g _ _) (r01_0 m g) hg
theorem p02_0 : endsAt [0, 1] (Ly.run ctx3 3000 [(33, true), (0, true)] (sP m g 2 b1 b2)) = some (T [(true && lt16 (or16 (w16 (w16 m.r0 * 256)) (w16 m.r1))), bl (ix (or16 (w16 (w16 m.r0 * 256)) (w16 m.r1)))], .int .i64 0, 5, hPm { m with pc := w16 (m.pc + 1) } (M1 g (ix (or16 (w16 (w16 m.r0 * 256)) (w16 m.r1))) (m.r7))) := by kernel_rfl
theorem r02_0 : endsAt [0, 1, 2] (Ly.run ctx3 3000 [(4, true), (13, true), (4, true), (0, true)] (sR m g 2)) = some (T [inw m.pc && true, inb m.r0 && inb m.r1, rg (256 * m.r0 + m.r1), bl (ix (256 * m.r0 + m.r1))], .int .i64 0, 3, hRm { m with pc := w16 (m.pc + 1) } (M1 g (ix (256 * m.r0 + m.r1)) (m.r7))) := by kernel_rfl
theorem o02 (hm : m.Ok) (hg : ∀ e, B8 (g e)) (hh : m.halt = false) (h0 : g (ix m.pc) = 2) : Both m g := by
  obtain ⟨r0, r1, r2, r3, r4, r5, r7, sp, pc⟩ := id hm
  exact join (m' := { m with pc := w16 (m.pc + 1) }) (g' := (upd g (ix (or16 (w16 (w16 m.r0 * 256)) (w16 m.r1))) (m.r7))) hm hh h0 (p02_0 m g _ _) (r02_0 m g) (by simp [*]) (by simp [*]) (by decide) (by decide) (eP (m1s rfl rfl)) (eR rfl (m1s (by simp [*]) (by simp [*]))) (by constructor <;> simp [*]) (upd_b8 hg (by simp [*]))
@[simp] def z03_0 (m : Mc) : Mc := { m with pc := w16 (m.pc + 1), r0 := w8 ((w16 (or16 (w16 (w16 m.r0 * 256)) (w16 m.r1) + 1)).fdiv 256), r1 := w8 (w16 (or16 (w16 (w16 m.r0 * 256)) (w16 m.r1) + 1)) }
theorem p03_0 : endsAt [0, 1] (Ly.run ctx3 3000 [] (sP m g 3 b1 b2)) = some (T [], .int .i64 0, 5, hPm (z03_0 m) (memL g)) := by kernel_rfl
theorem r03_0 : endsAt [0, 1, 2] (Ly.run ctx3 3000 [(4, true), (14, true), (0, true)] (sR m g 3)) = some (T [inw m.pc && true, inb m.r0 && inb m.r1, inw (256 * m.r0 + m.r1) && true], .int .i64 0, 3, hRm { m with pc := w16 (m.pc + 1), r0 := w8 ((w16 (256 * m.r0 + m.r1 + 1)).fdiv 256), r1 := w8 (and16 (w16 (256 * m.r0 + m.r1 + 1)) 255) } (memL g)) := by kernel_rfl
theorem o03 (hm : m.Ok) (hg : ∀ e, B8 (g e)) (hh : m.halt = false) (h0 : g (ix m.pc) = 3) : Both m g := by
  obtain ⟨r0, r1, r2, r3, r4, r5, r7, sp, pc⟩ := id hm
  exact joinA (m' := (z03_0 m)) hm hh h0 (p03_0 m g _ _) (r03_0 m g) hg
@[simp] def z04_0 (m : Mc) : Mc := { m with fp := par ((m.r0 + 1) % 256), fs := decide (128 ≤ (m.r0 + 1) % 256), fx := decide (15 < m.r0 % 16 + 1), fz := (m.r0 + 1) % 256 == 0, pc := w16 (m.pc + 1), r0 := (m.r0 + 1) % 256 }
theorem p04_0 : endsAt [0, 1] (Ly.run ctx3 3000 [(21, true)] (sP m g 4 b1 b2)) = some (T [inb m.r0], .int .i64 0, 5, hPm (z04_0 m) (memL g)) := by kernel_rfl
theorem r04_0 : endsAt [0, 1, 2] (Ly.run ctx3 3000 [(4, true), (10, true)] (sR m g 4)) = some (T [inw m.pc && true, inb m.r0], .int .i64 0, 4, hRm (z04_0 m) (memL g)) := by kernel_rfl
theorem o04 (hm : m.Ok) (hg : ∀ e, B8 (g e)) (hh : m.halt = false) (h0 : g (ix m.pc) = 4) : Both m g := by
  obtain ⟨r0, r1, r2, r3, r4, r5, r7, sp, pc⟩ := id hm
  exact joinA (m' := (z04_0 m)) hm hh h0 (p04_0 m g _ _) (r04_0 m g) hg
@[simp] def z05_0 (m : Mc) : Mc := { m with fp := par ((m.r0 - 1) % 256), fs := decide (128 ≤ (m.r0 - 1) % 256), fx := decide (15 < m.r0 % 16 + 15), fz := (m.r0 - 1) % 256 == 0, pc := w16 (m.pc + 1), r0 := (m.r0 - 1) % 256 }
theorem p05_0 : endsAt [0, 1] (Ly.run ctx3 3000 [(22, true)] (sP m g 5 b1 b2)) = some (T [inb m.r0], .int .i64 0, 5, hPm (z05_0 m) (memL g)) := by kernel_rfl
theorem r05_0 : endsAt [0, 1, 2] (Ly.run ctx3 3000 [(4, true), (11, true)] (sR m g 5)) = some (T [inw m.pc && true, inb m.r0], .int .i64 0, 4, hRm (z05_0 m) (memL g)) := by kernel_rfl
theorem o05 (hm : m.Ok) (hg : ∀ e, B8 (g e)) (hh : m.halt = false) (h0 : g (ix m.pc) = 5) : Both m g := by
  obtain ⟨r0, r1, r2, r3, r4, r5, r7, sp, pc⟩ := id hm
  exact joinA (m' := (z05_0 m)) hm hh h0 (p05_0 m g _ _) (r05_0 m g) hg
theorem p06_0 : endsAt [0, 1] (Ly.run ctx3 3000 [] (sP m g 6 b1 b2)) = some (T [], .int .i64 0, 5, hPm { m with pc := w16 (m.pc + 2), r0 := w8 (or16 0 (w16 b1)) } (memL g)) := by kernel_rfl
theorem r06_0 : endsAt [0, 1, 2] (Ly.run ctx3 3000 [(3, true), (0, true), (0, true), (1, true)] (sR m g 6)) = some (T [inw m.pc && true, rg (w16 (m.pc + 1)), bl (ix (w16 (m.pc + 1))), inw m.pc && true], .int .i64 0, 3, hRm { m with pc := w16 (m.pc + 2), r0 := w8 (w16 (g (ix (w16 (m.pc + 1))))) } (memL g)) := by kernel_rfl
theorem o06 (hm : m.Ok) (hg : ∀ e, B8 (g e)) (hh : m.halt = false) (h0 : g (ix m.pc) = 6) : Both m g := by
  obtain ⟨r0, r1, r2, r3, r4, r5, r7, sp, pc⟩ := id hm
  exact joinA (m' := { m with pc := w16 (m.pc + 2), r0 := w8 (or16 0 (w16 (g (at1 m.pc 1)))) }) hm hh h0 (p06_0 m g _ _) (r06_0 m g) hg
@[simp] def z07_0 (m : Mc) : Mc := { m with fc := decide (128 ≤ m.r7), pc := w16 (m.pc + 1), r7 := (2 * m.r7 + m.r7 / 128) % 256 }
theorem p07_0 : endsAt [0, 1] (Ly.run ctx3 3000 [(27, true)] (sP m g 7 b1 b2)) = some (T [inb m.r7], .int .i64 0, 5, hPm (z07_0 m) (memL g)) := by kernel_rfl
theorem r07_0 : endsAt [0, 1, 2] (Ly.run ctx3 3000 [(4, true), (16, true)] (sR m g 7)) = some (T [inw m.pc && true, inb m.r7], .int .i64 0, 3, hRm (z07_0 m) (memL g)) := by kernel_rfl
theorem o07 (hm : m.Ok) (hg : ∀ e, B8 (g e)) (hh : m.halt = false) (h0 : g (ix m.pc) = 7) : Both m g := by
  obtain ⟨r0, r1, r2, r3, r4, r5, r7, sp, pc⟩ := id hm
  exact joinA (m' := (z07_0 m)) hm hh h0 (p07_0 m g _ _) (r07_0 m g) hg
theorem p08_0 : endsAt [0, 1] (Ly.run ctx3 3000 [] (sP m g 8 b1 b2)) = some (T [], .int .i64 8, 5, hPm m (memL g)) := by kernel_rfl
theorem r08_0 : endsAt [0, 1, 2] (Ly.run ctx3 3000 [] (sR m g 8)) = some (T [], .int .i64 8, 3, hRm m (memL g)) := by kernel_rfl
theorem o08 (hm : m.Ok) (hg : ∀ e, B8 (g e)) (hh : m.halt = false) (h0 : g (ix m.pc) = 8) : Both m g := by
  obtain ⟨r0, r1, r2, r3, r4, r5, r7, sp, pc⟩ := id hm
  exact join (m' := m) (g' := g) hm hh h0 (p08_0 m g _ _) (r08_0 m g) (by simp [*]) (by simp [*]) (by decide) (by decide) (eP (.inl rfl)) (eR rfl (.inl rfl)) (by constructor <;> simp [*]) hg
@[simp] def z09_0 (m : Mc) : Mc := { m with fc := decide (65535 < or16 (w16 (w16 m.r4 * 256)) (w16 m.r5) + or16 (w16 (w16 m.r0 * 256)) (w16 m.r1)), pc := w16 (m.pc + 1), r4 := w8 (((or16 (w16 (w16 m.r4 * 256)) (w16 m.r5) + or16 (w16 (w16 m.r0 * 256)) (w16 m.r1)) % 65536).fdiv 256), r5 := w8 ((or16 (w16 (w16 m.r4 * 256)) (w16 m.r5) + or16 (w16 (w16 m.r0 * 256)) (w16 m.r1)) % 65536) }
theorem p09_0 : endsAt [0, 1] (Ly.run ctx3 3000 [(37, true)] (sP m g 9 b1 b2)) = some (T [true && decide (or16 (w16 (w16 m.r4 * 256)) (w16 m.r5) ≤ 65535) && (true && decide (or16 (w16 (w16 m.r0 * 256)) (w16 m.r1) ≤ 65535))], .int .i64 0, 5, hPm (z09_0 m) (memL g)) := by kernel_rfl
theorem r09_0 : endsAt [0, 1, 2] (Ly.run ctx3 3000 [(4, true), (12, true), (6, true), (0, true)] (sR m g 9)) = some (T [inw m.pc && true, inb m.r4 && inb m.r5, inb m.r0 && inb m.r1, decide (0 ≤ 256 * m.r4 + m.r5) && decide (256 * m.r4 + m.r5 ≤ 65535) && (decide (0 ≤ 256 * m.r0 + m.r1) && decide (256 * m.r0 + m.r1 ≤ 65535))], .int .i64 0, 3, hRm { m with fc := decide (65535 < 256 * m.r4 + m.r5 + (256 * m.r0 + m.r1)), pc := w16 (m.pc + 1), r4 := w8 (((256 * m.r4 + m.r5 + (256 * m.r0 + m.r1)) % 65536).fdiv 256), r5 := w8 (and16 ((256 * m.r4 + m.r5 + (256 * m.r0 + m.r1)) % 65536) 255) } (memL g)) := by kernel_rfl
theorem o09 (hm : m.Ok) (hg : ∀ e, B8 (g e)) (hh : m.halt = false) (h0 : g (ix m.pc) = 9) : Both m g := by
  obtain ⟨r0, r1, r2, r3, r4, r5, r7, sp, pc⟩ := id hm
  exact join (m' := (z09_0 m)) (g' := g) hm hh h0 (p09_0 m g _ _) (r09_0 m g) (by simp [*]; unfold B8 B16 at *; omega) (by simp [*]; unfold B8 B16 at *; omega) (by decide) (by decide) (eP (.inl rfl)) (eR (by simp [*]) (.inl rfl)) (by constructor <;> simp [*]) hg
@[simp] def z0a_0 (m : Mc) (g : Nat → Int) : Mc := { m with pc := w16 (m.pc + 1), r7 := g (ix (or16 (w16 (w16 m.r0 * 256)) (w16 m.r1))) }
theorem p0a_0 : endsAt [0, 1] (Ly.run ctx3 3000 [(34, true), (0, true)] (sP m g 10 b1 b2)) = some (T [(true && lt16 (or16 (w16 (w16 m.r0 * 256)) (w16 m.r1))), bl (ix (or16 (w16 (w16 m.r0 * 256)) (w16 m.r1)))], .int .i64 0, 5, hPm (z0a_0 m g) (memL g)) := by kernel_rfl
theorem r0a_0 : endsAt [0, 1, 2] (Ly.run ctx3 3000 [(4, true), (13, true), (3, true), (0, true)] (sR m g 10)) = some (T [inw m.pc && true, inb m.r0 && inb m.r1, rg (256 * m.r0 + m.r1), bl (ix (256 * m.r0 + m.r1))], .int .i64 0, 3, hRm { m with pc := w16 (m.pc + 1), r7 := g (ix (256 * m.r0 + m.r1)) } (memL g)) := by kernel_rfl
theorem o0a (hm : m.Ok) (hg : ∀ e, B8 (g e)) (hh : m.halt = false) (h0 : g (ix m.pc) = 10) : Both m g := by
  obtain ⟨r0, r1, r2, r3, r4, r5, r7, sp, pc⟩ := id hm
  exact joinA (m' := (z0a_0 m g)) hm hh h0 (p0a_0 m g _ _) (r0a_0 m g) hg
@[simp] def z0b_0 (m : Mc) : Mc := { m with pc := w16 (m.pc + 1), r0 := w8 ((w16 (or16 (w16 (w16 m.r0 * 256)) (w16 m.r1) - 1)).fdiv 256), r1 := w8 (w16 (or16 (w16 (w16 m.r0 * 256)) (w16 m.r1) - 1)) }
theorem p0b_0 : endsAt [0, 1] (Ly.run ctx3 3000 [] (sP m g 11 b1 b2)) = some (T [], .int .i64 0, 5, hPm (z0b_0 m) (memL g)) := by kernel_rfl
theorem r0b_0 : endsAt [0, 1, 2] (Ly.run ctx3 3000 [(4, true), (14, true), (0, true)] (sR m g 11)) = some (T [inw m.pc && true, inb m.r0 && inb m.r1, inw (256 * m.r0 + m.r1) && true], .int .i64 0, 3, hRm { m with pc := w16 (m.pc + 1), r0 := w8 ((w16 (256 * m.r0 + m.r1 + -1)).fdiv 256), r1 := w8 (and16 (w16 (256 * m.r0 + m.r1 + -1)) 255) } (memL g)) := by kernel_rfl
theorem o0b (hm : m.Ok) (hg : ∀ e, B8 (g e)) (hh : m.halt = false) (h0 : g (ix m.pc) = 11) : Both m g := by
  obtain ⟨r0, r1, r2, r3, r4, r5, r7, sp, pc⟩ := id hm
  exact joinA (m' := (z0b_0 m)) hm hh h0 (p0b_0 m g _ _) (r0b_0 m g) hg
@[simp] def z0c_0 (m : Mc) : Mc := { m with fp := par ((m.r1 + 1) % 256), fs := decide (128 ≤ (m.r1 + 1) % 256), fx := decide (15 < m.r1 % 16 + 1), fz := (m.r1 + 1) % 256 == 0, pc := w16 (m.pc + 1), r1 := (m.r1 + 1) % 256 }
theorem p0c_0 : endsAt [0, 1] (Ly.run ctx3 3000 [(21, true)] (sP m g 12 b1 b2)) = some (T [inb m.r1], .int .i64 0, 5, hPm (z0c_0 m) (memL g)) := by kernel_rfl
theorem r0c_0 : endsAt [0, 1, 2] (Ly.run ctx3 3000 [(4, true), (10, true)] (sR m g 12)) = some (T [inw m.pc && true, inb m.r1], .int .i64 0, 4, hRm (z0c_0 m) (memL g)) := by kernel_rfl
theorem o0c (hm : m.Ok) (hg : ∀ e, B8 (g e)) (hh : m.halt = false) (h0 : g (ix m.pc) = 12) : Both m g := by
  obtain ⟨r0, r1, r2, r3, r4, r5, r7, sp, pc⟩ := id hm
  exact joinA (m' := (z0c_0 m)) hm hh h0 (p0c_0 m g _ _) (r0c_0 m g) hg
@[simp] def z0d_0 (m : Mc) : Mc := { m with fp := par ((m.r1 - 1) % 256), fs := decide (128 ≤ (m.r1 - 1) % 256), fx := decide (15 < m.r1 % 16 + 15), fz := (m.r1 - 1) % 256 == 0, pc := w16 (m.pc + 1), r1 := (m.r1 - 1) % 256 }
theorem p0d_0 : endsAt [0, 1] (Ly.run ctx3 3000 [(22, true)] (sP m g 13 b1 b2)) = some (T [inb m.r1], .int .i64 0, 5, hPm (z0d_0 m) (memL g)) := by kernel_rfl
theorem r0d_0 : endsAt [0, 1, 2] (Ly.run ctx3 3000 [(4, true), (11, true)] (sR m g 13)) = some (T [inw m.pc && true, inb m.r1], .int .i64 0, 4, hRm (z0d_0 m) (memL g)) := by kernel_rfl
theorem o0d (hm : m.Ok) (hg : ∀ e, B8 (g e)) (hh : m.halt = false) (h0 : g (ix m.pc) = 13) : Both m g := by
  obtain ⟨r0, r1, r2, r3, r4, r5, r7, sp, pc⟩ := id hm
  exact joinA (m' := (z0d_0 m)) hm hh h0 (p0d_0 m g _ _) (r0d_0 m g) hg
theorem p0e_0 : endsAt [0, 1] (Ly.run ctx3 3000 [] (sP m g 14 b1 b2)) = some (T [], .int .i64 0, 5, hPm { m with pc := w16 (m.pc + 2), r1 := w8 (or16 0 (w16 b1)) } (memL g)) := by kernel_rfl
theorem r0e_0 : endsAt [0, 1, 2] (Ly.run ctx3 3000 [(3, true), (0, true), (0, true), (1, true)] (sR m g 14)) = some (T [inw m.pc && true, rg (w16 (m.pc + 1)), bl (ix (w16 (m.pc + 1))), inw m.pc && true], .int .i64 0, 3, hRm { m with pc := w16 (m.pc + 2), r1 := w8 (w16 (g (ix (w16 (m.pc + 1))))) } (memL g)) := by kernel_rfl
theorem o0e (hm : m.Ok) (hg : ∀ e, B8 (g e)) (hh : m.halt = false) (h0 : g (ix m.pc) = 14) : Both m g := by
  obtain ⟨r0, r1, r2, r3, r4, r5, r7, sp, pc⟩ := id hm
  exact joinA (m' := { m with pc := w16 (m.pc + 2), r1 := w8 (or16 0 (w16 (g (at1 m.pc 1)))) }) hm hh h0 (p0e_0 m g _ _) (r0e_0 m g) hg
@[simp] def z0f_0 (m : Mc) : Mc := { m with fc := m.r7 % 2 == 1, pc := w16 (m.pc + 1), r7 := m.r7 / 2 + m.r7 % 2 * 128 }
theorem p0f_0 : endsAt [0, 1] (Ly.run ctx3 3000 [(27, true)] (sP m g 15 b1 b2)) = some (T [inb m.r7], .int .i64 0, 5, hPm (z0f_0 m) (memL g)) := by kernel_rfl
theorem r0f_0 : endsAt [0, 1, 2] (Ly.run ctx3 3000 [(4, true), (16, true)] (sR m g 15)) = some (T [inw m.pc && true, inb m.r7], .int .i64 0, 3, hRm (z0f_0 m) (memL g)) := by kernel_rfl
theorem o0f (hm : m.Ok) (hg : ∀ e, B8 (g e)) (hh : m.halt = false) (h0 : g (ix m.pc) = 15) : Both m g := by
  obtain ⟨r0, r1, r2, r3, r4, r5, r7, sp, pc⟩ := id hm
  exact joinA (m' := (z0f_0 m)) hm hh h0 (p0f_0 m g _ _) (r0f_0 m g) hg
theorem blk0 (m : Mc) (g : Nat → Int) (hm : m.Ok) (hg : ∀ e, B8 (g e)) (hh : m.halt = false) (h1 : 0 ≤ g (ix m.pc)) (h2 : g (ix m.pc) < 16) : Both m g := by
  have h : g (ix m.pc) = 0 ∨ g (ix m.pc) = 1 ∨ g (ix m.pc) = 2 ∨ g (ix m.pc) = 3 ∨ g (ix m.pc) = 4 ∨ g (ix m.pc) = 5 ∨ g (ix m.pc) = 6 ∨ g (ix m.pc) = 7 ∨ g (ix m.pc) = 8 ∨ g (ix m.pc) = 9 ∨ g (ix m.pc) = 10 ∨ g (ix m.pc) = 11 ∨ g (ix m.pc) = 12 ∨ g (ix m.pc) = 13 ∨ g (ix m.pc) = 14 ∨ g (ix m.pc) = 15 := by omega
  rcases h with h | h | h | h | h | h | h | h | h | h | h | h | h | h | h | h
  · exact o00 m g hm hg hh h
  · exact o01 m g hm hg hh h
  · exact o02 m g hm hg hh h
  · exact o03 m g hm hg hh h
  · exact o04 m g hm hg hh h
  · exact o05 m g hm hg hh h
  · exact o06 m g hm hg hh h
  · exact o07 m g hm hg hh h
  · exact o08 m g hm hg hh h
  · exact o09 m g hm hg hh h
  · exact o0a m g hm hg hh h
  · exact o0b m g hm hg hh h
  · exact o0c m g hm hg hh h
  · exact o0d m g hm hg hh h
  · exact o0e m g hm hg hh h
  · exact o0f m g hm hg hh h
end Go.Proofs.Ytpggoincnebfnaa
namespace Go.Proofs.Ytpggoincnebfnaa
open Go Go.Ly Go.RowKit
variable (m : Mc) (g : Nat → Int) (b1 b2 : Int)
theorem p10_0 : endsAt [0, 1] (Ly.run ctx3 3000 [] (sP m g 16 b1 b2)) = some (T [], .int .i64 8, 5, hPm m (memL g)) := by kernel_rfl
theorem r10_0 : endsAt [0, 1, 2] (Ly.run ctx3 3000 [] (sR m g 16)) = some (T [], .int .i64 8, 3, hRm m (memL g)) := by kernel_rfl
theorem o10 (hm : m.Ok) (hg : ∀ e, B8 (g e)) (hh : m.halt = false) (h0 : g (ix m.pc) = 16) : Both m g := by
  obtain ⟨r0, r1, r2, r3, r4, r5, r7, sp, pc⟩ := id hm
  exact join (m' := m) (g' := g) hm hh h0 (p10_0 m g _ _) (r10_0 m g) (by simp [*]) (by simp [*]) (by decide) (by decide) (eP (.inl rfl)) (eR rfl (.inl rfl)) (by constructor <;> simp [*]) hg
theorem p11_0 : endsAt [0, 1] (Ly.run ctx3 3000 [] (sP m g 17 b1 b2)) = some (T [], .int .i64 0, 5, hPm { m with pc := w16 (m.pc + 3), r2 := w8 ((or16 (w16 (or16 0 (w16 b2) * 256)) (w16 b1)).fdiv 256), r3 := w8 (or16 (w16 (or16 0 (w16 b2) * 256)) (w16 b1)) } (memL g)) := by kernel_rfl
theorem r11_0 : endsAt [0, 1, 2] (Ly.run ctx3 3000 [(3, true), (0, true), (0, true), (1, true), (0, true), (0, true), (0, true)] (sR m g 17)) = some (T [inw m.pc && true, rg (w16 (m.pc + 1)), bl (ix (w16 (m.pc + 1))), inw m.pc && true, rg (w16 (m.pc + 2)), bl (ix (w16 (m.pc + 2))), inw m.pc && true], .int .i64 0, 3, hRm { m with pc := w16 (m.pc + 3), r2 := w8 ((w16 (w16 (g (ix (w16 (m.pc + 1)))) + w16 (w16 (g (ix (w16 (m.pc + 2)))) * 256))).fdiv 256), r3 := w8 (and16 (w16 (w16 (g (ix (w16 (m.pc + 1)))) + w16 (w16 (g (ix (w16 (m.pc + 2)))) * 256))) 255) } (memL g)) := by kernel_rfl
theorem o11 (hm : m.Ok) (hg : ∀ e, B8 (g e)) (hh : m.halt = false) (h0 : g (ix m.pc) = 17) : Both m g := by
  obtain ⟨r0, r1, r2, r3, r4, r5, r7, sp, pc⟩ := id hm
  exact joinA (m' := { m with pc := w16 (m.pc + 3), r2 := w8 ((or16 (w16 (or16 0 (w16 (g (at1 m.pc 2))) * 256)) (w16 (g (at1 m.pc 1)))).fdiv 256), r3 := w8 (or16 (w16 (or16 0 (w16 (g (at1 m.pc 2))) * 256)) (w16 (g (at1 m.pc 1)))) }) hm hh h0 (p11_0 m g _ _) (r11_0 m g) hg
theorem p12_0 : endsAt [0, 1] (Ly.run ctx3 3000 [(33, true), (0, true)] (sP m g 18 b1 b2)) = some (T [(true && lt16 (or16 (w16 (w16 m.r2 * 256)) (w16 m.r3))), bl (ix (or16 (w16 (w16 m.r2 * 256)) (w16 m.r3)))], .int .i64 0, 5, hPm { m with pc := w16 (m.pc + 1) } (M1 g (ix (or16 (w16 (w16 m.r2 * 256)) (w16 m.r3))) (m.r7))) := by kernel_rfl
theorem r12_0 : endsAt [0, 1, 2] (Ly.run ctx3 3000 [(4, true), (13, true), (4, true), (0, true)] (sR m g 18)) = some (T [inw m.pc && true, inb m.r2 && inb m.r3, rg (256 * m.r2 + m.r3), bl (ix (256 * m.r2 + m.r3))], .int .i64 0, 3, hRm { m with pc := w16 (m.pc + 1) } (M1 g (ix (256 * m.r2 + m.r3)) (m.r7))) := by kernel_rfl
theorem o12 (hm : m.Ok) (hg : ∀ e, B8 (g e)) (hh : m.halt = false) (h0 : g (ix m.pc) = 18) : Both m g := by
  obtain ⟨r0, r1, r2, r3, r4, r5, r7, sp, pc⟩ := id hm
  exact join (m' := { m with pc := w16 (m.pc + 1) }) (g' := (upd g (ix (or16 (w16 (w16 m.r2 * 256)) (w16 m.r3))) (m.r7))) hm hh h0 (p12_0 m g _ _) (r12_0 m g) (by simp [*]) (by simp [*]) (by decide) (by decide) (eP (m1s rfl rfl)) (eR rfl (m1s (by simp [*]) (by simp [*]))) (by constructor <;> simp [*]) (upd_b8 hg (by simp [*]))
@[simp] def z13_0 (m : Mc) : Mc := { m with pc := w16 (m.pc + 1), r2 := w8 ((w16 (or16 (w16 (w16 m.r2 * 256)) (w16 m.r3) + 1)).fdiv 256), r3 := w8 (w16 (or16 (w16 (w16 m.r2 * 256)) (w16 m.r3) + 1)) }
theorem p13_0 : endsAt [0, 1] (Ly.run ctx3 3000 [] (sP m g 19 b1 b2)) = some (T [], .int .i64 0, 5, hPm (z13_0 m) (memL g)) := by kernel_rfl
theorem r13_0 : endsAt [0, 1, 2] (Ly.run ctx3 3000 [(4, true), (14, true), (0, true)] (sR m g 19)) = some (T [inw m.pc && true, inb m.r2 && inb m.r3, inw (256 * m.r2 + m.r3) && true], .int .i64 0, 3, hRm { m with pc := w16 (m.pc + 1), r2 := w8 ((w16 (256 * m.r2 + m.r3 + 1)).fdiv 256), r3 := w8 (and16 (w16 (256 * m.r2 + m.r3 + 1)) 255) } (memL g)) := by kernel_rfl
theorem o13 (hm : m.Ok) (hg : ∀ e, B8 (g e)) (hh : m.halt = false) (h0 : g (ix m.pc) = 19) : Both m g := by
  obtain ⟨r0, r1, r2, r3, r4, r5, r7, sp, pc⟩ := id hm
  exact joinA (m' := (z13_0 m)) hm hh h0 (p13_0 m g _ _) (r13_0 m g) hg
@[simp] def z14_0 (m : Mc) : Mc := { m with fp := par ((m.r2 + 1) % 256), fs := decide (128 ≤ (m.r2 + 1) % 256), fx := decide (15 < m.r2 % 16 + 1), fz := (m.r2 + 1) % 256 == 0, pc := w16 (m.pc + 1), r2 := (m.r2 + 1) % 256 }
theorem p14_0 : endsAt [0, 1] (Ly.run ctx3 3000 [(21, true)] (sP m g 20 b1 b2)) = some (T [inb m.r2], .int .i64 0, 5, hPm (z14_0 m) (memL g)) := by kernel_rfl
theorem r14_0 : endsAt [0, 1, 2] (Ly.run ctx3 3000 [(4, true), (10, true)] (sR m g 20)) = some (T [inw m.pc && true, inb m.r2], .int .i64 0, 4, hRm (z14_0 m) (memL g)) := by kernel_rfl
theorem o14 (hm : m.Ok) (hg : ∀ e, B8 (g e)) (hh : m.halt = false) (h0 : g (ix m.pc) = 20) : Both m g := by
  obtain ⟨r0, r1, r2, r3, r4, r5, r7, sp, pc⟩ := id hm
  exact joinA (m' := (z14_0 m)) hm hh h0 (p14_0 m g _ _) (r14_0 m g) hg
@[simp] def z15_0 (m : Mc) : Mc := { m with fp := par ((m.r2 - 1) % 256), fs := decide (128 ≤ (m.r2 - 1) % 256), fx := decide (15 < m.r2 % 16 + 15), fz := (m.r2 - 1) % 256 == 0, pc := w16 (m.pc + 1), r2 := (m.r2 - 1) % 256 }
theorem p15_0 : endsAt [0, 1] (Ly.run ctx3 3000 [(22, true)] (sP m g 21 b1 b2)) = some (T [inb m.r2], .int .i64 0, 5, hPm (z15_0 m) (memL g)) := by kernel_rfl
theorem r15_0 : endsAt [0, 1, 2] (Ly.run ctx3 3000 [(4, true), (11, true)] (sR m g 21)) = some (T [inw m.pc && true, inb m.r2], .int .i64 0, 4, hRm (z15_0 m) (memL g)) := by kernel_rfl
theorem o15 (hm : m.Ok) (hg : ∀ e, B8 (g e)) (hh : m.halt = false) (h0 : g (ix m.pc) = 21) : Both m g := by
  obtain ⟨r0, r1, r2, r3, r4, r5, r7, sp, pc⟩ := id hm
  exact joinA (m' := (z15_0 m)) hm hh h0 (p15_0 m g _ _) (r15_0 m g) hg
theorem p16_0 : endsAt [0, 1] (Ly.run ctx3 3000 [] (sP m g 22 b1 b2)) = some (T [], .int .i64 0, 5, hPm { m with pc := w16 (m.pc + 2), r2 := w8 (or16 0 (w16 b1)) } (memL g)) := by kernel_rfl
theorem r16_0 : endsAt [0, 1, 2] (Ly.run ctx3 3000 [(3, true), (0, true), (0, true), (1, true)] (sR m g 22)) = some (T [inw m.pc && true, rg (w16 (m.pc + 1)), bl (ix (w16 (m.pc + 1))), inw m.pc && true], .int .i64 0, 3, hRm { m with pc := w16 (m.pc + 2), r2 := w8 (w16 (g (ix (w16 (m.pc + 1))))) } (memL g)) := by kernel_rfl
theorem o16 (hm : m.Ok) (hg : ∀ e, B8 (g e)) (hh : m.halt = false) (h0 : g (ix m.pc) = 22) : Both m g := by
  obtain ⟨r0, r1, r2, r3, r4, r5, r7, sp, pc⟩ := id hm
  exact joinA (m' := { m with pc := w16 (m.pc + 2), r2 := w8 (or16 0 (w16 (g (at1 m.pc 1)))) }) hm hh h0 (p16_0 m g _ _) (r16_0 m g) hg
@[simp] def z17_0 (m : Mc) : Mc := { m with fc := decide (128 ≤ m.r7), pc := w16 (m.pc + 1), r7 := (2 * m.r7 + cI m.fc) % 256 }
theorem p17_0 : endsAt [0, 1] (Ly.run ctx3 3000 [(27, true)] (sP m g 23 b1 b2)) = some (T [inb m.r7], .int .i64 0, 5, hPm (z17_0 m) (memL g)) := by kernel_rfl
theorem r17_0 : endsAt [0, 1, 2] (Ly.run ctx3 3000 [(4, true), (16, true)] (sR m g 23)) = some (T [inw m.pc && true, inb m.r7], .int .i64 0, 3, hRm (z17_0 m) (memL g)) := by kernel_rfl
theorem o17 (hm : m.Ok) (hg : ∀ e, B8 (g e)) (hh : m.halt = false) (h0 : g (ix m.pc) = 23) : Both m g := by
  obtain ⟨r0, r1, r2, r3, r4, r5, r7, sp, pc⟩ := id hm
  exact joinA (m' := (z17_0 m)) hm hh h0 (p17_0 m g _ _) (r17_0 m g) hg
theorem p18_0 : endsAt [0, 1] (Ly.run ctx3 3000 [] (sP m g 24 b1 b2)) = some (T [], .int .i64 8, 5, hPm m (memL g)) := by kernel_rfl
theorem r18_0 : endsAt [0, 1, 2] (Ly.run ctx3 3000 [] (sR m g 24)) = some (T [], .int .i64 8, 3, hRm m (memL g)) := by kernel_rfl
theorem o18 (hm : m.Ok) (hg : ∀ e, B8 (g e)) (hh : m.halt = false) (h0 : g (ix m.pc) = 24) : Both m g := by
  obtain ⟨r0, r1, r2, r3, r4, r5, r7, sp, pc⟩ := id hm
  exact join (m' := m) (g' := g) hm hh h0 (p18_0 m g _ _) (r18_0 m g) (by simp [*]) (by simp [*]) (by decide) (by decide) (eP (.inl rfl)) (eR rfl (.inl rfl)) (by constructor <;> simp [*]) hg
@[simp] def z19_0 (m : Mc) : Mc := { m with fc := decide (65535 < or16 (w16 (w16 m.r4 * 256)) (w16 m.r5) + or16 (w16 (w16 m.r2 * 256)) (w16 m.r3)), pc := w16 (m.pc + 1), r4 := w8 (((or16 (w16 (w16 m.r4 * 256)) (w16 m.r5) + or16 (w16 (w16 m.r2 * 256)) (w16 m.r3)) % 65536).fdiv 256), r5 := w8 ((or16 (w16 (w16 m.r4 * 256)) (w16 m.r5) + or16 (w16 (w16 m.r2 * 256)) (w16 m.r3)) % 65536) }
theorem p19_0 : endsAt [0, 1] (Ly.run ctx3 3000 [(37, true)] (sP m g 25 b1 b2)) = some (T [true && decide (or16 (w16 (w16 m.r4 * 256)) (w16 m.r5) ≤ 65535) && (true && decide (or16 (w16 (w16 m.r2 * 256)) (w16 m.r3) ≤ 65535))], .int .i64 0, 5, hPm (z19_0 m) (memL g)) := by kernel_rfl
theorem r19_0 : endsAt [0, 1, 2] (Ly.run ctx3 3000 [(4, true), (12, true), (6, true), (0, true)] (sR m g 25)) = some (T [inw m.pc && true, inb m.r4 && inb m.r5, inb m.r2 && inb m.r3, decide (0 ≤ 256 * m.r4 + m.r5) && decide (256 * m.r4 + m.r5 ≤ 65535) && (decide (0 ≤ 256 * m.r2 + m.r3) && decide (256 * m.r2 + m.r3 ≤ 65535))], .int .i64 0, 3, hRm { m with fc := decide (65535 < 256 * m.r4 + m.r5 + (256 * m.r2 + m.r3)), pc := w16 (m.pc + 1), r4 := w8 (((256 * m.r4 + m.r5 + (256 * m.r2 + m.r3)) % 65536).fdiv 256), r5 := w8 (and16 ((256 * m.r4 + m.r5 + (256 * m.r2 + m.r3)) % 65536) 255) } (memL g)) := by kernel_rfl
theorem o19 (hm : m.Ok) (hg : ∀ e, B8 (g e)) (hh : m.halt = false) (h0 : g (ix m.pc) = 25) : Both m g := by
  obtain ⟨r0, r1, r2, r3, r4, r5, r7, sp, pc⟩ := id hm
  exact join (m' := (z19_0 m)) (g' := g) hm hh h0 (p19_0 m g _ _) (r19_0 m g) (by simp [*]; unfold B8 B16 at *; omega) (by simp [*]; unfold B8 B16 at *; omega) (by decide) (by decide) (eP (.inl rfl)) (eR (by simp [*]) (.inl rfl)) (by constructor <;> simp [*]) hg
@[simp] def z1a_0 (m : Mc) (g : Nat → Int) : Mc := { m with pc := w16 (m.pc + 1), r7 := g (ix (or16 (w16 (w16 m.r2 * 256)) (w16 m.r3))) }
theorem p1a_0 : endsAt [0, 1] (Ly.run ctx3 3000 [(34, true), (0, true)] (sP m g 26 b1 b2)) = some (T [(true && lt16 (or16 (w16 (w16 m.r2 * 256)) (w16 m.r3))), bl (ix (or16 (w16 (w16 m.r2 * 256)) (w16 m.r3)))], .int .i64 0, 5, hPm (z1a_0 m g) (memL g)) := by kernel_rfl
theorem r1a_0 : endsAt [0, 1, 2] (Ly.run ctx3 3000 [(4, true), (13, true), (3, true), (0, true)] (sR m g 26)) = some (T [inw m.pc && true, inb m.r2 && inb m.r3, rg (256 * m.r2 + m.r3), bl (ix (256 * m.r2 + m.r3))], .int .i64 0, 3, hRm { m with pc := w16 (m.pc + 1), r7 := g (ix (256 * m.r2 + m.r3)) } (memL g)) := by kernel_rfl
theorem o1a (hm : m.Ok) (hg : ∀ e, B8 (g e)) (hh : m.halt = false) (h0 : g (ix m.pc) = 26) : Both m g := by
  obtain ⟨r0, r1, r2, r3, r4, r5, r7, sp, pc⟩ := id hm
  exact joinA (m' := (z1a_0 m g)) hm hh h0 (p1a_0 m g _ _) (r1a_0 m g) hg
@[simp] def z1b_0 (m : Mc) : Mc := { m with pc := w16 (m.pc + 1), r2 := w8 ((w16 (or16 (w16 (w16 m.r2 * 256)) (w16 m.r3) - 1)).fdiv 256), r3 := w8 (w16 (or16 (w16 (w16 m.r2 * 256)) (w16 m.r3) - 1)) }
theorem p1b_0 : endsAt [0, 1] (Ly.run ctx3 3000 [] (sP m g 27 b1 b2)) = some (T [], .int .i64 0, 5, hPm (z1b_0 m) (memL g)) := by kernel_rfl
theorem r1b_0 : endsAt [0, 1, 2] (Ly.run ctx3 3000 [(4, true), (14, true), (0, true)] (sR m g 27)) = some (T [inw m.pc && true, inb m.r2 && inb m.r3, inw (256 * m.r2 + m.r3) && true], .int .i64 0, 3, hRm { m with pc := w16 (m.pc + 1), r2 := w8 ((w16 (256 * m.r2 + m.r3 + -1)).fdiv 256), r3 := w8 (and16 (w16 (256 * m.r2 + m.r3 + -1)) 255) } (memL g)) := by kernel_rfl
theorem o1b (hm : m.Ok) (hg : ∀ e, B8 (g e)) (hh : m.halt = false) (h0 : g (ix m.pc) = 27) : Both m g := by
  obtain ⟨r0, r1, r2, r3, r4, r5, r7, sp, pc⟩ := id hm
  exact joinA (m' := (z1b_0 m)) hm hh h0 (p1b_0 m g _ _) (r1b_0 m g) hg
@[simp] def z1c_0 (m : Mc) : Mc := { m with fp := par ((m.r3 + 1) % 256), fs := decide (128 ≤ (m.r3 + 1) % 256), fx := decide (15 < m.r3 % 16 + 1), fz := (m.r3 + 1) % 256 == 0, pc := w16 (m.pc + 1), r3 := (m.r3 + 1) % 256 }
theorem p1c_0 : endsAt [0, 1] (Ly.run ctx3 3000 [(21, true)] (sP m g 28 b1 b2)) = some (T [inb m.r3], .int .i64 0, 5, hPm (z1c_0 m) (memL g)) := by kernel_rfl
theorem r1c_0 : endsAt [0, 1, 2] (Ly.run ctx3 3000 [(4, true), (10, true)] (sR m g 28)) = some (T [inw m.pc && true, inb m.r3], .int .i64 0, 4, hRm (z1c_0 m) (memL g)) := by kernel_rfl
theorem o1c (hm : m.Ok) (hg : ∀ e, B8 (g e)) (hh : m.halt = false) (h0 : g (ix m.pc) = 28) : Both m g := by
  obtain ⟨r0, r1, r2, r3, r4, r5, r7, sp, pc⟩ := id hm
  exact joinA (m' := (z1c_0 m)) hm hh h0 (p1c_0 m g _ _) (r1c_0 m g) hg
@[simp] def z1d_0 (m : Mc) : Mc := { m with fp := par ((m.r3 - 1) % 256), fs := decide (128 ≤ (m.r3 - 1) % 256), fx := decide (15 < m.r3 % 16 + 15), fz := (m.r3 - 1) % 256 == 0, pc := w16 (m.pc + 1), r3 := (m.r3 - 1) % 256 }
theorem p1d_0 : endsAt [0, 1] (Ly.run ctx3 3000 [(22, true)] (sP m g 29 b1 b2)) = some (T [inb m.r3], .int .i64 0, 5, hPm (z1d_0 m) (memL g)) := by kernel_rfl
theorem r1d_0 : endsAt [0, 1, 2] (Ly.run ctx3 3000 [(4, true), (11, true)] (sR m g 29)) = some (T [inw m.pc && true, inb m.r3], .int .i64 0, 4, hRm (z1d_0 m) (memL g)) := by kernel_rfl
theorem o1d (hm : m.Ok) (hg : ∀ e, B8 (g e)) (hh : m.halt = false) (h0 : g (ix m.pc) = 29) : Both m g := by
  obtain ⟨r0, r1, r2, r3, r4, r5, r7, sp, pc⟩ := id hm
  exact joinA (m' := (z1d_0 m)) hm hh h0 (p1d_0 m g _ _) (r1d_0 m g) hg
theorem p1e_0 : endsAt [0, 1] (Ly.run ctx3 3000 [] (sP m g 30 b1 b2)) = some (T [], .int .i64 0, 5, hPm { m with pc := w16 (m.pc + 2), r3 := w8 (or16 0 (w16 b1)) } (memL g)) := by kernel_rfl
theorem r1e_0 : endsAt [0, 1, 2] (Ly.run ctx3 3000 [(3, true), (0, true), (0, true), (1, true)] (sR m g 30)) = some (T [inw m.pc && true, rg (w16 (m.pc + 1)), bl (ix (w16 (m.pc + 1))), inw m.pc && true], .int .i64 0, 3, hRm { m with pc := w16 (m.pc + 2), r3 := w8 (w16 (g (ix (w16 (m.pc + 1))))) } (memL g)) := by kernel_rfl
theorem o1e (hm : m.Ok) (hg : ∀ e, B8 (g e)) (hh : m.halt = false) (h0 : g (ix m.pc) = 30) : Both m g := by
  obtain ⟨r0, r1, r2, r3, r4, r5, r7, sp, pc⟩ := id hm
  exact joinA (m' := { m with pc := w16 (m.pc + 2), r3 := w8 (or16 0 (w16 (g (at1 m.pc 1)))) }) hm hh h0 (p1e_0 m g _ _) (r1e_0 m g) hg
@[simp] def z1f_0 (m : Mc) : Mc := { m with fc := m.r7 % 2 == 1, pc := w16 (m.pc + 1), r7 := m.r7 / 2 + 128 * cI m.fc }
theorem p1f_0 : endsAt [0, 1] (Ly.run ctx3 3000 [(27, true)] (sP m g 31 b1 b2)) = some (T [inb m.r7], .int .i64 0, 5, hPm (z1f_0 m) (memL g)) := by kernel_rfl
theorem r1f_0 : endsAt [0, 1, 2] (Ly.run ctx3 3000 [(4, true), (16, true)] (sR m g 31)) = some (T [inw m.pc && true, inb m.r7], .int .i64 0, 3, hRm (z1f_0 m) (memL g)) := by kernel_rfl
theorem o1f (hm : m.Ok) (hg : ∀ e, B8 (g e)) (hh : m.halt = false) (h0 : g (ix m.pc) = 31) : Both m g := by
  obtain ⟨r0, r1, r2, r3, r4, r5, r7, sp, pc⟩ := id hm
  exact joinA (m' := (z1f_0 m)) hm hh h0 (p1f_0 m g _ _) (r1f_0 m g) hg
theorem blk1 (m : Mc) (g : Nat → Int) (hm : m.Ok) (hg : ∀ e, B8 (g e)) (hh : m.halt = false) (h1 : 16 ≤ g (ix m.pc)) (h2 : g (ix m.pc) < 32) : Both m g := by
  have h : g (ix m.pc) = 16 ∨ g (ix m.pc) = 17 ∨ g (ix m.pc) = 18 ∨ g (ix m.pc) = 19 ∨ g (ix m.pc) = 20 ∨ g (ix m.pc) = 21 ∨ g (ix m.pc) = 22 ∨ g (ix m.pc) = 23 ∨ g (ix m.pc) = 24 ∨ g (ix m.pc) = 25 ∨ g (ix m.pc) = 26 ∨ g (ix m.pc) = 27 ∨ g (ix m.pc) = 28 ∨ g (ix m.pc) = 29 ∨ g (ix m.pc) = 30 ∨ g (ix m.pc) = 31 := by omega
  rcases h with h | h | h | h | h | h | h | h | h | h | h | h | h | h | h | h
  · exact o10 m g hm hg hh h
  · exact o11 m g hm hg hh h
  · exact o12 m g hm hg hh h
  · exact o13 m g hm hg hh h
  · exact o14 m g hm hg hh h
  · exact o15 m g hm hg hh h
  · exact o16 m g hm hg hh h
  · exact o17 m g hm hg hh h
  · exact o18 m g hm hg hh h
  · exact o19 m g hm hg hh h
  · exact o1a m g hm hg hh h
  · exact o1b m g hm hg hh h
  · exact o1c m g hm hg hh h
  · exact o1d m g hm hg hh h
  · exact o1e m g hm hg hh h
  · exact o1f m g hm hg hh h
end Go.Proofs.Ytpggoincnebfnaa
namespace Go.Proofs.Ytpggoincnebfnaa
open Go Go.Ly Go.RowKit
variable (m : Mc) (g : Nat → Int) (b1 b2 : Int)
theorem p20_0 : endsAt [0, 1] (Ly.run ctx3 3000 [] (sP m g 32 b1 b2)) = some (T [], .int .i64 8, 5, hPm m (memL g)) := by kernel_rfl
theorem r20_0 : endsAt [0, 1, 2] (Ly.run ctx3 3000 [] (sR m g 32)) = some (T [], .int .i64 8, 3, hRm m (memL g)) := by kernel_rfl
theorem o20 (hm : m.Ok) (hg : ∀ e, B8 (g e)) (hh : m.halt = false) (h0 : g (ix m.pc) = 32) : Both m g := by
  obtain ⟨r0, r1, r2, r3, r4, r5, r7, sp, pc⟩ := id hm
  exact join (m' := m) (g' := g) hm hh h0 (p20_0 m g _ _) (r20_0 m g) (by simp [*]) (by simp [*]) (by decide) (by decide) (eP (.inl rfl)) (eR rfl (.inl rfl)) (by constructor <;> simp [*]) hg
theorem p21_0 : endsAt [0, 1] (Ly.run ctx3 3000 [] (sP m g 33 b1 b2)) = some (T [], .int .i64 0, 5, hPm { m with pc := w16 (m.pc + 3), r4 := w8 ((or16 (w16 (or16 0 (w16 b2) * 256)) (w16 b1)).fdiv 256), r5 := w8 (or16 (w16 (or16 0 (w16 b2) * 256)) (w16 b1)) } (memL g)) := by kernel_rfl
theorem r21_0 : endsAt [0, 1, 2] (Ly.run ctx3 3000 [(3, true), (0, true), (0, true), (1, true), (0, true), (0, true), (0, true)] (sR m g 33)) = some (T [inw m.pc && true, rg (w16 (m.pc + 1)), bl (ix (w16 (m.pc + 1))), inw m.pc && true, rg (w16 (m.pc + 2)), bl (ix (w16 (m.pc + 2))), inw m.pc && true], .int .i64 0, 3, hRm { m with pc := w16 (m.pc + 3), r4 := w8 ((w16 (w16 (g (ix (w16 (m.pc + 1)))) + w16 (w16 (g (ix (w16 (m.pc + 2)))) * 256))).fdiv 256), r5 := w8 (and16 (w16 (w16 (g (ix (w16 (m.pc + 1)))) + w16 (w16 (g (ix (w16 (m.pc + 2)))) * 256))) 255) } (memL g)) := by kernel_rfl
theorem o21 (hm : m.Ok) (hg : ∀ e, B8 (g e)) (hh : m.halt = false) (h0 : g (ix m.pc) = 33) : Both m g := by
  obtain ⟨r0, r1, r2, r3, r4, r5, r7, sp, pc⟩ := id hm
  exact joinA (m' := { m with pc := w16 (m.pc + 3), r4 := w8 ((or16 (w16 (or16 0 (w16 (g (at1 m.pc 2))) * 256)) (w16 (g (at1 m.pc 1)))).fdiv 256), r5 := w8 (or16 (w16 (or16 0 (w16 (g (at1 m.pc 2))) * 256)) (w16 (g (at1 m.pc 1)))) }) hm hh h0 (p21_0 m g _ _) (r21_0 m g) hg
theorem p22_0 : endsAt [0, 1] (Ly.run ctx3 3000 [(33, true), (0, true), (2, true), (0, true)] (sP m g 34 b1 b2)) = some (T [(true && lt16 (or16 (w16 (or16 0 (w16 b2) * 256)) (w16 b1))), bl (ix (or16 (w16 (or16 0 (w16 b2) * 256)) (w16 b1))), (true && lt16 (w16 (or16 (w16 (or16 0 (w16 b2) * 256)) (w16 b1) + 1))), bl (ix (w16 (or16 (w16 (or16 0 (w16 b2) * 256)) (w16 b1) + 1)))], .int .i64 0, 6, hPm { m with pc := w16 (m.pc + 3) } (M2 g (ix (or16 (w16 (or16 0 (w16 b2) * 256)) (w16 b1))) (m.r5) (ix (w16 (or16 (w16 (or16 0 (w16 b2) * 256)) (w16 b1) + 1))) (m.r4))) := by kernel_rfl
theorem r22_0 : endsAt [0, 1, 2] (Ly.run ctx3 3000 [(3, true), (0, true), (0, true), (1, true), (0, true), (0, true), (0, true), (9, true), (0, true), (0, true), (1, true), (0, true)] (sR m g 34)) = some (T [inw m.pc && true, rg (w16 (m.pc + 1)), bl (ix (w16 (m.pc + 1))), inw m.pc && true, rg (w16 (m.pc + 2)), bl (ix (w16 (m.pc + 2))), inw m.pc && true, rg (w16 (w16 (g (ix (w16 (m.pc + 1)))) + w16 (w16 (g (ix (w16 (m.pc + 2)))) * 256))), bl (ix (w16 (w16 (g (ix (w16 (m.pc + 1)))) + w16 (w16 (g (ix (w16 (m.pc + 2)))) * 256)))), inw (w16 (w16 (g (ix (w16 (m.pc + 1)))) + w16 (w16 (g (ix (w16 (m.pc + 2)))) * 256))) && true, rg (w16 (w16 (w16 (g (ix (w16 (m.pc + 1)))) + w16 (w16 (g (ix (w16 (m.pc + 2)))) * 256)) + 1)), bl (ix (w16 (w16 (w16 (g (ix (w16 (m.pc + 1)))) + w16 (w16 (g (ix (w16 (m.pc + 2)))) * 256)) + 1)))], .int .i64 0, 3, hRm { m with pc := w16 (m.pc + 3) } (M2 g (ix (w16 (w16 (g (ix (w16 (m.pc + 1)))) + w16 (w16 (g (ix (w16 (m.pc + 2)))) * 256)))) (m.r5) (ix (w16 (w16 (w16 (g (ix (w16 (m.pc + 1)))) + w16 (w16 (g (ix (w16 (m.pc + 2)))) * 256)) + 1))) (m.r4))) := by kernel_rfl
theorem o22 (hm : m.Ok) (hg : ∀ e, B8 (g e)) (hh : m.halt = false) (h0 : g (ix m.pc) = 34) : Both m g := by
  obtain ⟨r0, r1, r2, r3, r4, r5, r7, sp, pc⟩ := id hm
  exact join (m' := { m with pc := w16 (m.pc + 3) }) (g' := (upd (upd g (ix (or16 (w16 (or16 0 (w16 (g (at1 m.pc 2))) * 256)) (w16 (g (at1 m.pc 1))))) (m.r5)) (ix (w16 (or16 (w16 (or16 0 (w16 (g (at1 m.pc 2))) * 256)) (w16 (g (at1 m.pc 1))) + 1))) (m.r4))) hm hh h0 (p22_0 m g _ _) (r22_0 m g) (by simp [*]) (by simp [*]) (by decide) (by decide) (eP (m2s rfl rfl rfl rfl)) (eR rfl (m2s (by simp [*]) (by simp [*]) (by simp [*]) (by simp [*]))) (by constructor <;> simp [*]) (upd_b8 (upd_b8 hg (by simp [*])) (by simp [*]))
@[simp] def z23_0 (m : Mc) : Mc := { m with pc := w16 (m.pc + 1), r4 := w8 ((w16 (or16 (w16 (w16 m.r4 * 256)) (w16 m.r5) + 1)).fdiv 256), r5 := w8 (w16 (or16 (w16 (w16 m.r4 * 256)) (w16 m.r5) + 1)) }
theorem p23_0 : endsAt [0, 1] (Ly.run ctx3 3000 [] (sP m g 35 b1 b2)) = some (T [], .int .i64 0, 5, hPm (z23_0 m) (memL g)) := by kernel_rfl
theorem r23_0 : endsAt [0, 1, 2] (Ly.run ctx3 3000 [(4, true), (14, true), (0, true)] (sR m g 35)) = some (T [inw m.pc && true, inb m.r4 && inb m.r5, inw (256 * m.r4 + m.r5) && true], .int .i64 0, 3, hRm { m with pc := w16 (m.pc + 1), r4 := w8 ((w16 (256 * m.r4 + m.r5 + 1)).fdiv 256), r5 := w8 (and16 (w16 (256 * m.r4 + m.r5 + 1)) 255) } (memL g)) := by kernel_rfl
theorem o23 (hm : m.Ok) (hg : ∀ e, B8 (g e)) (hh : m.halt = false) (h0 : g (ix m.pc) = 35) : Both m g := by
  obtain ⟨r0, r1, r2, r3, r4, r5, r7, sp, pc⟩ := id hm
  exact joinA (m' := (z23_0 m)) hm hh h0 (p23_0 m g _ _) (r23_0 m g) hg
@[simp] def z24_0 (m : Mc) : Mc := { m with fp := par ((m.r4 + 1) % 256), fs := decide (128 ≤ (m.r4 + 1) % 256), fx := decide (15 < m.r4 % 16 + 1), fz := (m.r4 + 1) % 256 == 0, pc := w16 (m.pc + 1), r4 := (m.r4 + 1) % 256 }
theorem p24_0 : endsAt [0, 1] (Ly.run ctx3 3000 [(21, true)] (sP m g 36 b1 b2)) = some (T [inb m.r4], .int .i64 0, 5, hPm (z24_0 m) (memL g)) := by kernel_rfl
theorem r24_0 : endsAt [0, 1, 2] (Ly.run ctx3 3000 [(4, true), (10, true)] (sR m g 36)) = some (T [inw m.pc && true, inb m.r4], .int .i64 0, 4, hRm (z24_0 m) (memL g)) := by kernel_rfl
theorem o24 (hm : m.Ok) (hg : ∀ e, B8 (g e)) (hh : m.halt = false) (h0 : g (ix m.pc) = 36) : Both m g := by
  obtain ⟨r0, r1, r2, r3, r4, r5, r7, sp, pc⟩ := id hm
  exact joinA (m' := (z24_0 m)) hm hh h0 (p24_0 m g _ _) (r24_0 m g) hg
@[simp] def z25_0 (m : Mc) : Mc := { m with fp := par ((m.r4 - 1) % 256), fs := decide (128 ≤ (m.r4 - 1) % 256), fx := decide (15 < m.r4 % 16 + 15), fz := (m.r4 - 1) % 256 == 0, pc := w16 (m.pc + 1), r4 := (m.r4 - 1) % 256 }
theorem p25_0 : endsAt [0, 1] (Ly.run ctx3 3000 [(22, true)] (sP m g 37 b1 b2)) = some (T [inb m.r4], .int .i64 0, 5, hPm (z25_0 m) (memL g)) := by kernel_rfl
theorem r25_0 : endsAt [0, 1, 2] (Ly.run ctx3 3000 [(4, true), (11, true)] (sR m g 37)) = some (T [inw m.pc && true, inb m.r4], .int .i64 0, 4, hRm (z25_0 m) (memL g)) := by kernel_rfl
theorem o25 (hm : m.Ok) (hg : ∀ e, B8 (g e)) (hh : m.halt = false) (h0 : g (ix m.pc) = 37) : Both m g := by
  obtain ⟨r0, r1, r2, r3, r4, r5, r7, sp, pc⟩ := id hm
  exact joinA (m' := (z25_0 m)) hm hh h0 (p25_0 m g _ _) (r25_0 m g) hg
theorem p26_0 : endsAt [0, 1] (Ly.run ctx3 3000 [] (sP m g 38 b1 b2)) = some (T [], .int .i64 0, 5, hPm { m with pc := w16 (m.pc + 2), r4 := w8 (or16 0 (w16 b1)) } (memL g)) := by kernel_rfl
theorem r26_0 : endsAt [0, 1, 2] (Ly.run ctx3 3000 [(3, true), (0, true), (0, true), (1, true)] (sR m g 38)) = some (T [inw m.pc && true, rg (w16 (m.pc + 1)), bl (ix (w16 (m.pc + 1))), inw m.pc && true], .int .i64 0, 3, hRm { m with pc := w16 (m.pc + 2), r4 := w8 (w16 (g (ix (w16 (m.pc + 1))))) } (memL g)) := by kernel_rfl
theorem o26 (hm : m.Ok) (hg : ∀ e, B8 (g e)) (hh : m.halt = false) (h0 : g (ix m.pc) = 38) : Both m g := by
  obtain ⟨r0, r1, r2, r3, r4, r5, r7, sp, pc⟩ := id hm
  exact joinA (m' := { m with pc := w16 (m.pc + 2), r4 := w8 (or16 0 (w16 (g (at1 m.pc 1)))) }) hm hh h0 (p26_0 m g _ _) (r26_0 m g) hg
@[simp] def z27_0 (m : Mc) : Mc := { m with fc := daaH m.r7 m.fx m.fc, fp := par ((m.r7 + 6 * cI (daaL m.r7 m.fx) + 96 * cI (daaH m.r7 m.fx m.fc)) % 256), fs := decide (128 ≤ (m.r7 + 6 * cI (daaL m.r7 m.fx) + 96 * cI (daaH m.r7 m.fx m.fc)) % 256), fx := decide (9 < m.r7 % 16), fz := (m.r7 + 6 * cI (daaL m.r7 m.fx) + 96 * cI (daaH m.r7 m.fx m.fc)) % 256 == 0, pc := w16 (m.pc + 1), r7 := (m.r7 + 6 * cI (daaL m.r7 m.fx) + 96 * cI (daaH m.r7 m.fx m.fc)) % 256 }
theorem p27_0 : endsAt [0, 1] (Ly.run ctx3 3000 [(24, true)] (sP m g 39 b1 b2)) = some (T [inb m.r7], .int .i64 0, 5, hPm (z27_0 m) (memL g)) := by kernel_rfl
theorem r27_0 : endsAt [0, 1, 2] (Ly.run ctx3 3000 [(4, true), (13, true)] (sR m g 39)) = some (T [inw m.pc && true, inb m.r7], .int .i64 0, 4, hRm (z27_0 m) (memL g)) := by kernel_rfl
theorem o27 (hm : m.Ok) (hg : ∀ e, B8 (g e)) (hh : m.halt = false) (h0 : g (ix m.pc) = 39) : Both m g := by
  obtain ⟨r0, r1, r2, r3, r4, r5, r7, sp, pc⟩ := id hm
  exact joinA (m' := (z27_0 m)) hm hh h0 (p27_0 m g _ _) (r27_0 m g) hg
theorem p28_0 : endsAt [0, 1] (Ly.run ctx3 3000 [] (sP m g 40 b1 b2)) = some (T [], .int .i64 8, 5, hPm m (memL g)) := by kernel_rfl
theorem r28_0 : endsAt [0, 1, 2] (Ly.run ctx3 3000 [] (sR m g 40)) = some (T [], .int .i64 8, 3, hRm m (memL g)) := by kernel_rfl
theorem o28 (hm : m.Ok) (hg : ∀ e, B8 (g e)) (hh : m.halt = false) (h0 : g (ix m.pc) = 40) : Both m g := by
  obtain ⟨r0, r1, r2, r3, r4, r5, r7, sp, pc⟩ := id hm
  exact join (m' := m) (g' := g) hm hh h0 (p28_0 m g _ _) (r28_0 m g) (by simp [*]) (by simp [*]) (by decide) (by decide) (eP (.inl rfl)) (eR rfl (.inl rfl)) (by constructor <;> simp [*]) hg
@[simp] def z29_0 (m : Mc) : Mc := { m with fc := decide (65535 < or16 (w16 (w16 m.r4 * 256)) (w16 m.r5) + or16 (w16 (w16 m.r4 * 256)) (w16 m.r5)), pc := w16 (m.pc + 1), r4 := w8 (((or16 (w16 (w16 m.r4 * 256)) (w16 m.r5) + or16 (w16 (w16 m.r4 * 256)) (w16 m.r5)) % 65536).fdiv 256), r5 := w8 ((or16 (w16 (w16 m.r4 * 256)) (w16 m.r5) + or16 (w16 (w16 m.r4 * 256)) (w16 m.r5)) % 65536) }
theorem p29_0 : endsAt [0, 1] (Ly.run ctx3 3000 [(37, true)] (sP m g 41 b1 b2)) = some (T [true && decide (or16 (w16 (w16 m.r4 * 256)) (w16 m.r5) ≤ 65535) && (true && decide (or16 (w16 (w16 m.r4 * 256)) (w16 m.r5) ≤ 65535))], .int .i64 0, 5, hPm (z29_0 m) (memL g)) := by kernel_rfl
theorem r29_0 : endsAt [0, 1, 2] (Ly.run ctx3 3000 [(4, true), (12, true), (6, true), (0, true)] (sR m g 41)) = some (T [inw m.pc && true, inb m.r4 && inb m.r5, inb m.r4 && inb m.r5, decide (0 ≤ 256 * m.r4 + m.r5) && decide (256 * m.r4 + m.r5 ≤ 65535) && (decide (0 ≤ 256 * m.r4 + m.r5) && decide (256 * m.r4 + m.r5 ≤ 65535))], .int .i64 0, 3, hRm { m with fc := decide (65535 < 256 * m.r4 + m.r5 + (256 * m.r4 + m.r5)), pc := w16 (m.pc + 1), r4 := w8 (((256 * m.r4 + m.r5 + (256 * m.r4 + m.r5)) % 65536).fdiv 256), r5 := w8 (and16 ((256 * m.r4 + m.r5 + (256 * m.r4 + m.r5)) % 65536) 255) } (memL g)) := by kernel_rfl
theorem o29 (hm : m.Ok) (hg : ∀ e, B8 (g e)) (hh : m.halt = false) (h0 : g (ix m.pc) = 41) : Both m g := by
  obtain ⟨r0, r1, r2, r3, r4, r5, r7, sp, pc⟩ := id hm
  exact join (m' := (z29_0 m)) (g' := g) hm hh h0 (p29_0 m g _ _) (r29_0 m g) (by simp [*]; unfold B8 B16 at *; omega) (by simp [*]; unfold B8 B16 at *; omega) (by decide) (by decide) (eP (.inl rfl)) (eR (by simp [*]) (.inl rfl)) (by constructor <;> simp [*]) hg
theorem p2a_0 : endsAt [0, 1] (Ly.run ctx3 3000 [(30, true), (0, true), (0, true), (0, true)] (sP m g 42 b1 b2)) = some (T [(true && lt16 (or16 (w16 (or16 0 (w16 b2) * 256)) (w16 b1))), bl (ix (or16 (w16 (or16 0 (w16 b2) * 256)) (w16 b1))), (true && lt16 (w16 (or16 (w16 (or16 0 (w16 b2) * 256)) (w16 b1) + 1))), bl (ix (w16 (or16 (w16 (or16 0 (w16 b2) * 256)) (w16 b1) + 1)))], .int .i64 0, 5, hPm { m with pc := w16 (m.pc + 3), r4 := w8 ((or16 (w16 (g (ix (or16 (w16 (or16 0 (w16 b2) * 256)) (w16 b1))))) (w16 (w16 (g (ix (w16 (or16 (w16 (or16 0 (w16 b2) * 256)) (w16 b1) + 1)))) * 256))).fdiv 256), r5 := w8 (or16 (w16 (g (ix (or16 (w16 (or16 0 (w16 b2) * 256)) (w16 b1))))) (w16 (w16 (g (ix (w16 (or16 (w16 (or16 0 (w16 b2) * 256)) (w16 b1) + 1)))) * 256))) } (memL g)) := by kernel_rfl
theorem r2a_0 : endsAt [0, 1, 2] (Ly.run ctx3 3000 [(3, true), (0, true), (0, true), (1, true), (0, true), (0, true), (0, true), (9, true), (0, true), (0, true), (0, true), (0, true), (0, true)] (sR m g 42)) = some (T [inw m.pc && true, rg (w16 (m.pc + 1)), bl (ix (w16 (m.pc + 1))), inw m.pc && true, rg (w16 (m.pc + 2)), bl (ix (w16 (m.pc + 2))), inw m.pc && true, inw (w16 (w16 (g (ix (w16 (m.pc + 1)))) + w16 (w16 (g (ix (w16 (m.pc + 2)))) * 256))) && true, rg (w16 (w16 (w16 (g (ix (w16 (m.pc + 1)))) + w16 (w16 (g (ix (w16 (m.pc + 2)))) * 256)) + 1)), bl (ix (w16 (w16 (w16 (g (ix (w16 (m.pc + 1)))) + w16 (w16 (g (ix (w16 (m.pc + 2)))) * 256)) + 1))), rg (w16 (w16 (g (ix (w16 (m.pc + 1)))) + w16 (w16 (g (ix (w16 (m.pc + 2)))) * 256))), bl (ix (w16 (w16 (g (ix (w16 (m.pc + 1)))) + w16 (w16 (g (ix (w16 (m.pc + 2)))) * 256)))), inb (g (ix (w16 (w16 (w16 (g (ix (w16 (m.pc + 1)))) + w16 (w16 (g (ix (w16 (m.pc + 2)))) * 256)) + 1)))) && inb (g (ix (w16 (w16 (g (ix (w16 (m.pc + 1)))) + w16 (w16 (g (ix (w16 (m.pc + 2)))) * 256)))))], .int .i64 0, 3, hRm { m with pc := w16 (m.pc + 3), r4 := w8 ((256 * g (ix (w16 (w16 (w16 (g (ix (w16 (m.pc + 1)))) + w16 (w16 (g (ix (w16 (m.pc + 2)))) * 256)) + 1))) + g (ix (w16 (w16 (g (ix (w16 (m.pc + 1)))) + w16 (w16 (g (ix (w16 (m.pc + 2)))) * 256))))).fdiv 256), r5 := w8 (and16 (256 * g (ix (w16 (w16 (w16 (g (ix (w16 (m.pc + 1)))) + w16 (w16 (g (ix (w16 (m.pc + 2)))) * 256)) + 1))) + g (ix (w16 (w16 (g (ix (w16 (m.pc + 1)))) + w16 (w16 (g (ix (w16 (m.pc + 2)))) * 256))))) 255) } (memL g)) := by kernel_rfl
theorem o2a (hm : m.Ok) (hg : ∀ e, B8 (g e)) (hh : m.halt = false) (h0 : g (ix m.pc) = 42) : Both m g := by
  obtain ⟨r0, r1, r2, r3, r4, r5, r7, sp, pc⟩ := id hm
  exact joinA (m' := { m with pc := w16 (m.pc + 3), r4 := w8 ((or16 (w16 (g (ix (or16 (w16 (or16 0 (w16 (g (at1 m.pc 2))) * 256)) (w16 (g (at1 m.pc 1))))))) (w16 (w16 (g (ix (w16 (or16 (w16 (or16 0 (w16 (g (at1 m.pc 2))) * 256)) (w16 (g (at1 m.pc 1))) + 1)))) * 256))).fdiv 256), r5 := w8 (or16 (w16 (g (ix (or16 (w16 (or16 0 (w16 (g (at1 m.pc 2))) * 256)) (w16 (g (at1 m.pc 1))))))) (w16 (w16 (g (ix (w16 (or16 (w16 (or16 0 (w16 (g (at1 m.pc 2))) * 256)) (w16 (g (at1 m.pc 1))) + 1)))) * 256))) }) hm hh h0 (p2a_0 m g _ _) (r2a_0 m g) hg
@[simp] def z2b_0 (m : Mc) : Mc := { m with pc := w16 (m.pc + 1), r4 := w8 ((w16 (or16 (w16 (w16 m.r4 * 256)) (w16 m.r5) - 1)).fdiv 256), r5 := w8 (w16 (or16 (w16 (w16 m.r4 * 256)) (w16 m.r5) - 1)) }
theorem p2b_0 : endsAt [0, 1] (Ly.run ctx3 3000 [] (sP m g 43 b1 b2)) = some (T [], .int .i64 0, 5, hPm (z2b_0 m) (memL g)) := by kernel_rfl
theorem r2b_0 : endsAt [0, 1, 2] (Ly.run ctx3 3000 [(4, true), (14, true), (0, true)] (sR m g 43)) = some (T [inw m.pc && true, inb m.r4 && inb m.r5, inw (256 * m.r4 + m.r5) && true], .int .i64 0, 3, hRm { m with pc := w16 (m.pc + 1), r4 := w8 ((w16 (256 * m.r4 + m.r5 + -1)).fdiv 256), r5 := w8 (and16 (w16 (256 * m.r4 + m.r5 + -1)) 255) } (memL g)) := by kernel_rfl
theorem o2b (hm : m.Ok) (hg : ∀ e, B8 (g e)) (hh : m.halt = false) (h0 : g (ix m.pc) = 43) : Both m g := by
  obtain ⟨r0, r1, r2, r3, r4, r5, r7, sp, pc⟩ := id hm
  exact joinA (m' := (z2b_0 m)) hm hh h0 (p2b_0 m g _ _) (r2b_0 m g) hg
@[simp] def z2c_0 (m : Mc) : Mc := { m with fp := par ((m.r5 + 1) % 256), fs := decide (128 ≤ (m.r5 + 1) % 256), fx := decide (15 < m.r5 % 16 + 1), fz := (m.r5 + 1) % 256 == 0, pc := w16 (m.pc + 1), r5 := (m.r5 + 1) % 256 }
theorem p2c_0 : endsAt [0, 1] (Ly.run ctx3 3000 [(21, true)] (sP m g 44 b1 b2)) = some (T [inb m.r5], .int .i64 0, 5, hPm (z2c_0 m) (memL g)) := by kernel_rfl
theorem r2c_0 : endsAt [0, 1, 2] (Ly.run ctx3 3000 [(4, true), (10, true)] (sR m g 44)) = some (T [inw m.pc && true, inb m.r5], .int .i64 0, 4, hRm (z2c_0 m) (memL g)) := by kernel_rfl
theorem o2c (hm : m.Ok) (hg : ∀ e, B8 (g e)) (hh : m.halt = false) (h0 : g (ix m.pc) = 44) : Both m g := by
  obtain ⟨r0, r1, r2, r3, r4, r5, r7, sp, pc⟩ := id hm
  exact joinA (m' := (z2c_0 m)) hm hh h0 (p2c_0 m g _ _) (r2c_0 m g) hg
@[simp] def z2d_0 (m : Mc) : Mc := { m with fp := par ((m.r5 - 1) % 256), fs := decide (128 ≤ (m.r5 - 1) % 256), fx := decide (15 < m.r5 % 16 + 15), fz := (m.r5 - 1) % 256 == 0, pc := w16 (m.pc + 1), r5 := (m.r5 - 1) % 256 }
theorem p2d_0 : endsAt [0, 1] (Ly.run ctx3 3000 [(22, true)] (sP m g 45 b1 b2)) = some (T [inb m.r5], .int .i64 0, 5, hPm (z2d_0 m) (memL g)) := by kernel_rfl
theorem r2d_0 : endsAt [0, 1, 2] (Ly.run ctx3 3000 [(4, true), (11, true)] (sR m g 45)) = some (T [inw m.pc && true, inb m.r5], .int .i64 0, 4, hRm (z2d_0 m) (memL g)) := by kernel_rfl
theorem o2d (hm : m.Ok) (hg : ∀ e, B8 (g e)) (hh : m.halt = false) (h0 : g (ix m.pc) = 45) : Both m g := by
  obtain ⟨r0, r1, r2, r3, r4, r5, r7, sp, pc⟩ := id hm
  exact joinA (m' := (z2d_0 m)) hm hh h0 (p2d_0 m g _ _) (r2d_0 m g) hg
theorem p2e_0 : endsAt [0, 1] (Ly.run ctx3 3000 [] (sP m g 46 b1 b2)) = some (T [], .int .i64 0, 5, hPm { m with pc := w16 (m.pc + 2), r5 := w8 (or16 0 (w16 b1)) } (memL g)) := by kernel_rfl
theorem r2e_0 : endsAt [0, 1, 2] (Ly.run ctx3 3000 [(3, true), (0, true), (0, true), (1, true)] (sR m g 46)) = some (T [inw m.pc && true, rg (w16 (m.pc + 1)), bl (ix (w16 (m.pc + 1))), inw m.pc && true], .int .i64 0, 3, hRm { m with pc := w16 (m.pc + 2), r5 := w8 (w16 (g (ix (w16 (m.pc + 1))))) } (memL g)) := by kernel_rfl
theorem o2e (hm : m.Ok) (hg : ∀ e, B8 (g e)) (hh : m.halt = false) (h0 : g (ix m.pc) = 46) : Both m g := by
  obtain ⟨r0, r1, r2, r3, r4, r5, r7, sp, pc⟩ := id hm
  exact joinA (m' := { m with pc := w16 (m.pc + 2), r5 := w8 (or16 0 (w16 (g (at1 m.pc 1)))) }) hm hh h0 (p2e_0 m g _ _) (r2e_0 m g) hg
@[simp] def z2f_0 (m : Mc) : Mc := { m with pc := w16 (m.pc + 1), r7 := xor8 255 m.r7 }
theorem p2f_0 : endsAt [0, 1] (Ly.run ctx3 3000 [] (sP m g 47 b1 b2)) = some (T [], .int .i64 0, 5, hPm (z2f_0 m) (memL g)) := by kernel_rfl
theorem r2f_0 : endsAt [0, 1, 2] (Ly.run ctx3 3000 [(4, true)] (sR m g 47)) = some (T [inw m.pc && true], .int .i64 0, 3, hRm { m with pc := w16 (m.pc + 1), r7 := w8 (255 - m.r7) } (memL g)) := by kernel_rfl
theorem o2f (hm : m.Ok) (hg : ∀ e, B8 (g e)) (hh : m.halt = false) (h0 : g (ix m.pc) = 47) : Both m g := by
  obtain ⟨r0, r1, r2, r3, r4, r5, r7, sp, pc⟩ := id hm
  exact joinA (m' := (z2f_0 m)) hm hh h0 (p2f_0 m g _ _) (r2f_0 m g) hg
theorem blk2 (m : Mc) (g : Nat → Int) (hm : m.Ok) (hg : ∀ e, B8 (g e)) (hh : m.halt = false) (h1 : 32 ≤ g (ix m.pc)) (h2 : g (ix m.pc) < 48) : Both m g := by
  have h : g (ix m.pc) = 32 ∨ g (ix m.pc) = 33 ∨ g (ix m.pc) = 34 ∨ g (ix m.pc) = 35 ∨ g (ix m.pc) = 36 ∨ g (ix m.pc) = 37 ∨ g (ix m.pc) = 38 ∨ g (ix m.pc) = 39 ∨ g (ix m.pc) = 40 ∨ g (ix m.pc) = 41 ∨ g (ix m.pc) = 42 ∨ g (ix m.pc) = 43 ∨ g (ix m.pc) = 44 ∨ g (ix m.pc) = 45 ∨ g (ix m.pc) = 46 ∨ g (ix m.pc) = 47 := by omega
  rcases h with h | h | h | h | h | h | h | h | h | h | h | h | h | h | h | h
  · exact o20 m g hm hg hh h
  · exact o21 m g hm hg hh h
  · exact o22 m g hm hg hh h
  · exact o23 m g hm hg hh h
  · exact o24 m g hm hg hh h
  · exact o25 m g hm hg hh h
  · exact o26 m g hm hg hh h
  · exact o27 m g hm hg hh h
  · exact o28 m g hm hg hh h
  · exact o29 m g hm hg hh h
  · exact o2a m g hm hg hh h
  · exact o2b m g hm hg hh h
  · exact o2c m g hm hg hh h
  · exact o2d m g hm hg hh h
  · exact o2e m g hm hg hh h
  · exact o2f m g hm hg hh h
end Go.Proofs.Ytpggoincnebfnaa
namespace Go.Proofs.Ytpggoincnebfnaa
open Go Go.Ly Go.RowKit
variable (m : Mc) (g : Nat → Int) (b1 b2 : Int)
theorem p30_0 : endsAt [0, 1] (Ly.run ctx3 3000 [] (sP m g 48 b1 b2)) = some (T [], .int .i64 8, 5, hPm m (memL g)) := by kernel_rfl
theorem r30_0 : endsAt [0, 1, 2] (Ly.run ctx3 3000 [] (sR m g 48)) = some (T [], .int .i64 8, 3, hRm m (memL g)) := by kernel_rfl
theorem o30 (hm : m.Ok) (hg : ∀ e, B8 (g e)) (hh : m.halt = false) (h0 : g (ix m.pc) = 48) : Both m g := by
  obtain ⟨r0, r1, r2, r3, r4, r5, r7, sp, pc⟩ := id hm
  exact join (m' := m) (g' := g) hm hh h0 (p30_0 m g _ _) (r30_0 m g) (by simp [*]) (by simp [*]) (by decide) (by decide) (eP (.inl rfl)) (eR rfl (.inl rfl)) (by constructor <;> simp [*]) hg
theorem p31_0 : endsAt [0, 1] (Ly.run ctx3 3000 [] (sP m g 49 b1 b2)) = some (T [], .int .i64 0, 5, hPm { m with pc := w16 (m.pc + 3), sp := or16 (w16 (or16 0 (w16 b2) * 256)) (w16 b1) } (memL g)) := by kernel_rfl
theorem r31_0 : endsAt [0, 1, 2] (Ly.run ctx3 3000 [(3, true), (0, true), (0, true), (1, true), (0, true), (0, true), (0, true)] (sR m g 49)) = some (T [inw m.pc && true, rg (w16 (m.pc + 1)), bl (ix (w16 (m.pc + 1))), inw m.pc && true, rg (w16 (m.pc + 2)), bl (ix (w16 (m.pc + 2))), inw m.pc && true], .int .i64 0, 3, hRm { m with pc := w16 (m.pc + 3), sp := w16 (w16 (g (ix (w16 (m.pc + 1)))) + w16 (w16 (g (ix (w16 (m.pc + 2)))) * 256)) } (memL g)) := by kernel_rfl
theorem o31 (hm : m.Ok) (hg : ∀ e, B8 (g e)) (hh : m.halt = false) (h0 : g (ix m.pc) = 49) : Both m g := by
  obtain ⟨r0, r1, r2, r3, r4, r5, r7, sp, pc⟩ := id hm
  exact joinA (m' := { m with pc := w16 (m.pc + 3), sp := or16 (w16 (or16 0 (w16 (g (at1 m.pc 2))) * 256)) (w16 (g (at1 m.pc 1))) }) hm hh h0 (p31_0 m g _ _) (r31_0 m g) hg
theorem p32_0 : endsAt [0, 1] (Ly.run ctx3 3000 [(32, true), (0, true)] (sP m g 50 b1 b2)) = some (T [(true && lt16 (or16 (w16 (or16 0 (w16 b2) * 256)) (w16 b1))), bl (ix (or16 (w16 (or16 0 (w16 b2) * 256)) (w16 b1)))], .int .i64 0, 5, hPm { m with pc := w16 (m.pc + 3) } (M1 g (ix (or16 (w16 (or16 0 (w16 b2) * 256)) (w16 b1))) (m.r7))) := by kernel_rfl
theorem r32_0 : endsAt [0, 1, 2] (Ly.run ctx3 3000 [(3, true), (0, true), (0, true), (1, true), (0, true), (0, true), (0, true), (11, true), (0, true)] (sR m g 50)) = some (T [inw m.pc && true, rg (w16 (m.pc + 1)), bl (ix (w16 (m.pc + 1))), inw m.pc && true, rg (w16 (m.pc + 2)), bl (ix (w16 (m.pc + 2))), inw m.pc && true, rg (w16 (w16 (g (ix (w16 (m.pc + 1)))) + w16 (w16 (g (ix (w16 (m.pc + 2)))) * 256))), bl (ix (w16 (w16 (g (ix (w16 (m.pc + 1)))) + w16 (w16 (g (ix (w16 (m.pc + 2)))) * 256))))], .int .i64 0, 3, hRm { m with pc := w16 (m.pc + 3) } (M1 g (ix (w16 (w16 (g (ix (w16 (m.pc + 1)))) + w16 (w16 (g (ix (w16 (m.pc + 2)))) * 256)))) (m.r7))) := by kernel_rfl
theorem o32 (hm : m.Ok) (hg : ∀ e, B8 (g e)) (hh : m.halt = false) (h0 : g (ix m.pc) = 50) : Both m g := by
  obtain ⟨r0, r1, r2, r3, r4, r5, r7, sp, pc⟩ := id hm
  exact join (m' := { m with pc := w16 (m.pc + 3) }) (g' := (upd g (ix (or16 (w16 (or16 0 (w16 (g (at1 m.pc 2))) * 256)) (w16 (g (at1 m.pc 1))))) (m.r7))) hm hh h0 (p32_0 m g _ _) (r32_0 m g) (by simp [*]) (by simp [*]) (by decide) (by decide) (eP (m1s rfl rfl)) (eR rfl (m1s (by simp [*]) (by simp [*]))) (by constructor <;> simp [*]) (upd_b8 hg (by simp [*]))
@[simp] def z33_0 (m : Mc) : Mc := { m with pc := w16 (m.pc + 1), sp := w16 (m.sp + 1) }
theorem p33_0 : endsAt [0, 1] (Ly.run ctx3 3000 [] (sP m g 51 b1 b2)) = some (T [], .int .i64 0, 5, hPm (z33_0 m) (memL g)) := by kernel_rfl
theorem r33_0 : endsAt [0, 1, 2] (Ly.run ctx3 3000 [(4, true), (13, true)] (sR m g 51)) = some (T [inw m.pc && true, inw m.sp && true], .int .i64 0, 3, hRm (z33_0 m) (memL g)) := by kernel_rfl
theorem o33 (hm : m.Ok) (hg : ∀ e, B8 (g e)) (hh : m.halt = false) (h0 : g (ix m.pc) = 51) : Both m g := by
  obtain ⟨r0, r1, r2, r3, r4, r5, r7, sp, pc⟩ := id hm
  exact joinA (m' := (z33_0 m)) hm hh h0 (p33_0 m g _ _) (r33_0 m g) hg
@[simp] def z34_0 (m : Mc) (g : Nat → Int) : Mc := { m with fp := par ((g (ix (or16 (w16 (w16 m.r4 * 256)) (w16 m.r5))) + 1) % 256), fs := decide (128 ≤ (g (ix (or16 (w16 (w16 m.r4 * 256)) (w16 m.r5))) + 1) % 256), fx := decide (15 < g (ix (or16 (w16 (w16 m.r4 * 256)) (w16 m.r5))) % 16 + 1), fz := (g (ix (or16 (w16 (w16 m.r4 * 256)) (w16 m.r5))) + 1) % 256 == 0, pc := w16 (m.pc + 1) }
theorem p34_0 : endsAt [0, 1] (Ly.run ctx3 3000 [(31, true), (0, true), (0, true), (0, true)] (sP m g 52 b1 b2)) = some (T [(true && lt16 (or16 (w16 (w16 m.r4 * 256)) (w16 m.r5))), bl (ix (or16 (w16 (w16 m.r4 * 256)) (w16 m.r5))), inb (g (ix (or16 (w16 (w16 m.r4 * 256)) (w16 m.r5)))), bl (ix (or16 (w16 (w16 m.r4 * 256)) (w16 m.r5)))], .int .i64 0, 5, hPm (z34_0 m g) (M1 g (ix (or16 (w16 (w16 m.r4 * 256)) (w16 m.r5))) ((g (ix (or16 (w16 (w16 m.r4 * 256)) (w16 m.r5))) + 1) % 256))) := by kernel_rfl
theorem r34_0 : endsAt [0, 1, 2] (Ly.run ctx3 3000 [(4, true), (15, true), (0, true), (0, true), (0, true), (7, true), (0, true), (0, true)] (sR m g 52)) = some (T [inw m.pc && true, inb m.r4 && inb m.r5, rg (256 * m.r4 + m.r5), bl (ix (256 * m.r4 + m.r5)), inb (g (ix (256 * m.r4 + m.r5))), inb m.r4 && inb m.r5, rg (256 * m.r4 + m.r5), bl (ix (256 * m.r4 + m.r5))], .int .i64 0, 4, hRm { m with fp := par ((g (ix (256 * m.r4 + m.r5)) + 1) % 256), fs := decide (128 ≤ (g (ix (256 * m.r4 + m.r5)) + 1) % 256), fx := decide (15 < g (ix (256 * m.r4 + m.r5)) % 16 + 1), fz := (g (ix (256 * m.r4 + m.r5)) + 1) % 256 == 0, pc := w16 (m.pc + 1) } (M1 g (ix (256 * m.r4 + m.r5)) ((g (ix (256 * m.r4 + m.r5)) + 1) % 256))) := by kernel_rfl
theorem o34 (hm : m.Ok) (hg : ∀ e, B8 (g e)) (hh : m.halt = false) (h0 : g (ix m.pc) = 52) : Both m g := by
  obtain ⟨r0, r1, r2, r3, r4, r5, r7, sp, pc⟩ := id hm
  exact join (m' := (z34_0 m g)) (g' := (upd g (ix (or16 (w16 (w16 m.r4 * 256)) (w16 m.r5))) ((g (ix (or16 (w16 (w16 m.r4 * 256)) (w16 m.r5))) + 1) % 256))) hm hh h0 (p34_0 m g _ _) (r34_0 m g) (by simp [*]) (by simp [*]) (by decide) (by decide) (eP (m1s rfl rfl)) (eR (by simp [*]) (m1s (by simp [*]) (by simp [*]))) (by constructor <;> simp [*]) (upd_b8 hg (by simp [*]))
@[simp] def z35_0 (m : Mc) (g : Nat → Int) : Mc := { m with fp := par ((g (ix (or16 (w16 (w16 m.r4 * 256)) (w16 m.r5))) - 1) % 256), fs := decide (128 ≤ (g (ix (or16 (w16 (w16 m.r4 * 256)) (w16 m.r5))) - 1) % 256), fx := decide (15 < g (ix (or16 (w16 (w16 m.r4 * 256)) (w16 m.r5))) % 16 + 15), fz := (g (ix (or16 (w16 (w16 m.r4 * 256)) (w16 m.r5))) - 1) % 256 == 0, pc := w16 (m.pc + 1) }
theorem p35_0 : endsAt [0, 1] (Ly.run ctx3 3000 [(32, true), (0, true), (0, true), (0, true)] (sP m g 53 b1 b2)) = some (T [(true && lt16 (or16 (w16 (w16 m.r4 * 256)) (w16 m.r5))), bl (ix (or16 (w16 (w16 m.r4 * 256)) (w16 m.r5))), inb (g (ix (or16 (w16 (w16 m.r4 * 256)) (w16 m.r5)))), bl (ix (or16 (w16 (w16 m.r4 * 256)) (w16 m.r5)))], .int .i64 0, 5, hPm (z35_0 m g) (M1 g (ix (or16 (w16 (w16 m.r4 * 256)) (w16 m.r5))) ((g (ix (or16 (w16 (w16 m.r4 * 256)) (w16 m.r5))) - 1) % 256))) := by kernel_rfl
theorem r35_0 : endsAt [0, 1, 2] (Ly.run ctx3 3000 [(4, true), (16, true), (0, true), (0, true), (0, true), (7, true), (0, true), (0, true)] (sR m g 53)) = some (T [inw m.pc && true, inb m.r4 && inb m.r5, rg (256 * m.r4 + m.r5), bl (ix (256 * m.r4 + m.r5)), inb (g (ix (256 * m.r4 + m.r5))), inb m.r4 && inb m.r5, rg (256 * m.r4 + m.r5), bl (ix (256 * m.r4 + m.r5))], .int .i64 0, 4, hRm { m with fp := par ((g (ix (256 * m.r4 + m.r5)) - 1) % 256), fs := decide (128 ≤ (g (ix (256 * m.r4 + m.r5)) - 1) % 256), fx := decide (15 < g (ix (256 * m.r4 + m.r5)) % 16 + 15), fz := (g (ix (256 * m.r4 + m.r5)) - 1) % 256 == 0, pc := w16 (m.pc + 1) } (M1 g (ix (256 * m.r4 + m.r5)) ((g (ix (256 * m.r4 + m.r5)) - 1) % 256))) := by kernel_rfl
theorem o35 (hm : m.Ok) (hg : ∀ e, B8 (g e)) (hh : m.halt = false) (h0 : g (ix m.pc) = 53) : Both m g := by
  obtain ⟨r0, r1, r2, r3, r4, r5, r7, sp, pc⟩ := id hm
  exact join (m' := (z35_0 m g)) (g' := (upd g (ix (or16 (w16 (w16 m.r4 * 256)) (w16 m.r5))) ((g (ix (or16 (w16 (w16 m.r4 * 256)) (w16 m.r5))) - 1) % 256))) hm hh h0 (p35_0 m g _ _) (r35_0 m g) (by simp [*]) (by simp [*]) (by decide) (by decide) (eP (m1s rfl rfl)) (eR (by simp [*]) (m1s (by simp [*]) (by simp [*]))) (by constructor <;> simp [*]) (upd_b8 hg (by simp [*]))
theorem p36_0 : endsAt [0, 1] (Ly.run ctx3 3000 [(36, true), (0, true)] (sP m g 54 b1 b2)) = some (T [(true && lt16 (or16 (w16 (w16 m.r4 * 256)) (w16 m.r5))), bl (ix (or16 (w16 (w16 m.r4 * 256)) (w16 m.r5)))], .int .i64 0, 5, hPm { m with pc := w16 (m.pc + 2) } (M1 g (ix (or16 (w16 (w16 m.r4 * 256)) (w16 m.r5))) (w8 (or16 0 (w16 b1))))) := by kernel_rfl
theorem r36_0 : endsAt [0, 1, 2] (Ly.run ctx3 3000 [(3, true), (0, true), (0, true), (1, true), (17, true), (0, true), (0, true)] (sR m g 54)) = some (T [inw m.pc && true, rg (w16 (m.pc + 1)), bl (ix (w16 (m.pc + 1))), inw m.pc && true, inb m.r4 && inb m.r5, rg (256 * m.r4 + m.r5), bl (ix (256 * m.r4 + m.r5))], .int .i64 0, 3, hRm { m with pc := w16 (m.pc + 2) } (M1 g (ix (256 * m.r4 + m.r5)) (w8 (w16 (g (ix (w16 (m.pc + 1)))))))) := by kernel_rfl
theorem o36 (hm : m.Ok) (hg : ∀ e, B8 (g e)) (hh : m.halt = false) (h0 : g (ix m.pc) = 54) : Both m g := by
  obtain ⟨r0, r1, r2, r3, r4, r5, r7, sp, pc⟩ := id hm
  exact join (m' := { m with pc := w16 (m.pc + 2) }) (g' := (upd g (ix (or16 (w16 (w16 m.r4 * 256)) (w16 m.r5))) (w8 (or16 0 (w16 (g (at1 m.pc 1))))))) hm hh h0 (p36_0 m g _ _) (r36_0 m g) (by simp [*]) (by simp [*]) (by decide) (by decide) (eP (m1s rfl rfl)) (eR rfl (m1s (by simp [*]) (by simp [*]))) (by constructor <;> simp [*]) (upd_b8 hg (by simp [*]))
@[simp] def z37_0 (m : Mc) : Mc := { m with fc := true, pc := w16 (m.pc + 1) }
theorem p37_0 : endsAt [0, 1] (Ly.run ctx3 3000 [] (sP m g 55 b1 b2)) = some (T [], .int .i64 0, 5, hPm (z37_0 m) (memL g)) := by kernel_rfl
theorem r37_0 : endsAt [0, 1, 2] (Ly.run ctx3 3000 [(4, true)] (sR m g 55)) = some (T [inw m.pc && true], .int .i64 0, 3, hRm (z37_0 m) (memL g)) := by kernel_rfl
theorem o37 (hm : m.Ok) (hg : ∀ e, B8 (g e)) (hh : m.halt = false) (h0 : g (ix m.pc) = 55) : Both m g := by
  obtain ⟨r0, r1, r2, r3, r4, r5, r7, sp, pc⟩ := id hm
  exact joinA (m' := (z37_0 m)) hm hh h0 (p37_0 m g _ _) (r37_0 m g) hg
theorem p38_0 : endsAt [0, 1] (Ly.run ctx3 3000 [] (sP m g 56 b1 b2)) = some (T [], .int .i64 8, 5, hPm m (memL g)) := by kernel_rfl
theorem r38_0 : endsAt [0, 1, 2] (Ly.run ctx3 3000 [] (sR m g 56)) = some (T [], .int .i64 8, 3, hRm m (memL g)) := by kernel_rfl
theorem o38 (hm : m.Ok) (hg : ∀ e, B8 (g e)) (hh : m.halt = false) (h0 : g (ix m.pc) = 56) : Both m g := by
  obtain ⟨r0, r1, r2, r3, r4, r5, r7, sp, pc⟩ := id hm
  exact join (m' := m) (g' := g) hm hh h0 (p38_0 m g _ _) (r38_0 m g) (by simp [*]) (by simp [*]) (by decide) (by decide) (eP (.inl rfl)) (eR rfl (.inl rfl)) (by constructor <;> simp [*]) hg
@[simp] def z39_0 (m : Mc) : Mc := { m with fc := decide (65535 < or16 (w16 (w16 m.r4 * 256)) (w16 m.r5) + m.sp), pc := w16 (m.pc + 1), r4 := w8 (((or16 (w16 (w16 m.r4 * 256)) (w16 m.r5) + m.sp) % 65536).fdiv 256), r5 := w8 ((or16 (w16 (w16 m.r4 * 256)) (w16 m.r5) + m.sp) % 65536) }
theorem p39_0 : endsAt [0, 1] (Ly.run ctx3 3000 [(34, true)] (sP m g 57 b1 b2)) = some (T [true && decide (or16 (w16 (w16 m.r4 * 256)) (w16 m.r5) ≤ 65535) && (decide (0 ≤ m.sp) && decide (m.sp ≤ 65535))], .int .i64 0, 5, hPm (z39_0 m) (memL g)) := by kernel_rfl
theorem r39_0 : endsAt [0, 1, 2] (Ly.run ctx3 3000 [(4, true), (12, true), (5, true)] (sR m g 57)) = some (T [inw m.pc && true, inb m.r4 && inb m.r5, decide (0 ≤ 256 * m.r4 + m.r5) && decide (256 * m.r4 + m.r5 ≤ 65535) && (decide (0 ≤ m.sp) && decide (m.sp ≤ 65535))], .int .i64 0, 3, hRm { m with fc := decide (65535 < 256 * m.r4 + m.r5 + m.sp), pc := w16 (m.pc + 1), r4 := w8 (((256 * m.r4 + m.r5 + m.sp) % 65536).fdiv 256), r5 := w8 (and16 ((256 * m.r4 + m.r5 + m.sp) % 65536) 255) } (memL g)) := by kernel_rfl
theorem o39 (hm : m.Ok) (hg : ∀ e, B8 (g e)) (hh : m.halt = false) (h0 : g (ix m.pc) = 57) : Both m g := by
  obtain ⟨r0, r1, r2, r3, r4, r5, r7, sp, pc⟩ := id hm
  exact join (m' := (z39_0 m)) (g' := g) hm hh h0 (p39_0 m g _ _) (r39_0 m g) (by simp [*]; unfold B8 B16 at *; omega) (by simp [*]; unfold B8 B16 at *; omega) (by decide) (by decide) (eP (.inl rfl)) (eR (by simp [*]) (.inl rfl)) (by constructor <;> simp [*]) hg
theorem p3a_0 : endsAt [0, 1] (Ly.run ctx3 3000 [(32, true), (0, true)] (sP m g 58 b1 b2)) = some (T [(true && lt16 (or16 (w16 (or16 0 (w16 b2) * 256)) (w16 b1))), bl (ix (or16 (w16 (or16 0 (w16 b2) * 256)) (w16 b1)))], .int .i64 0, 5, hPm { m with pc := w16 (m.pc + 3), r7 := g (ix (or16 (w16 (or16 0 (w16 b2) * 256)) (w16 b1))) } (memL g)) := by kernel_rfl
theorem r3a_0 : endsAt [0, 1, 2] (Ly.run ctx3 3000 [(3, true), (0, true), (0, true), (1, true), (0, true), (0, true), (0, true), (10, true), (0, true)] (sR m g 58)) = some (T [inw m.pc && true, rg (w16 (m.pc + 1)), bl (ix (w16 (m.pc + 1))), inw m.pc && true, rg (w16 (m.pc + 2)), bl (ix (w16 (m.pc + 2))), inw m.pc && true, rg (w16 (w16 (g (ix (w16 (m.pc + 1)))) + w16 (w16 (g (ix (w16 (m.pc + 2)))) * 256))), bl (ix (w16 (w16 (g (ix (w16 (m.pc + 1)))) + w16 (w16 (g (ix (w16 (m.pc + 2)))) * 256))))], .int .i64 0, 3, hRm { m with pc := w16 (m.pc + 3), r7 := g (ix (w16 (w16 (g (ix (w16 (m.pc + 1)))) + w16 (w16 (g (ix (w16 (m.pc + 2)))) * 256)))) } (memL g)) := by kernel_rfl
theorem o3a (hm : m.Ok) (hg : ∀ e, B8 (g e)) (hh : m.halt = false) (h0 : g (ix m.pc) = 58) : Both m g := by
  obtain ⟨r0, r1, r2, r3, r4, r5, r7, sp, pc⟩ := id hm
  exact joinA (m' := { m with pc := w16 (m.pc + 3), r7 := g (ix (or16 (w16 (or16 0 (w16 (g (at1 m.pc 2))) * 256)) (w16 (g (at1 m.pc 1))))) }) hm hh h0 (p3a_0 m g _ _) (r3a_0 m g) hg
@[simp] def z3b_0 (m : Mc) : Mc := { m with pc := w16 (m.pc + 1), sp := w16 (m.sp - 1) }
theorem p3b_0 : endsAt [0, 1] (Ly.run ctx3 3000 [] (sP m g 59 b1 b2)) = some (T [], .int .i64 0, 5, hPm (z3b_0 m) (memL g)) := by kernel_rfl
theorem r3b_0 : endsAt [0, 1, 2] (Ly.run ctx3 3000 [(4, true), (13, true)] (sR m g 59)) = some (T [inw m.pc && true, inw m.sp && true], .int .i64 0, 3, hRm { m with pc := w16 (m.pc + 1), sp := w16 (m.sp + -1) } (memL g)) := by kernel_rfl
theorem o3b (hm : m.Ok) (hg : ∀ e, B8 (g e)) (hh : m.halt = false) (h0 : g (ix m.pc) = 59) : Both m g := by
  obtain ⟨r0, r1, r2, r3, r4, r5, r7, sp, pc⟩ := id hm
  exact joinA (m' := (z3b_0 m)) hm hh h0 (p3b_0 m g _ _) (r3b_0 m g) hg
@[simp] def z3c_0 (m : Mc) : Mc := { m with fp := par ((m.r7 + 1) % 256), fs := decide (128 ≤ (m.r7 + 1) % 256), fx := decide (15 < m.r7 % 16 + 1), fz := (m.r7 + 1) % 256 == 0, pc := w16 (m.pc + 1), r7 := (m.r7 + 1) % 256 }
theorem p3c_0 : endsAt [0, 1] (Ly.run ctx3 3000 [(21, true)] (sP m g 60 b1 b2)) = some (T [inb m.r7], .int .i64 0, 5, hPm (z3c_0 m) (memL g)) := by kernel_rfl
theorem r3c_0 : endsAt [0, 1, 2] (Ly.run ctx3 3000 [(4, true), (10, true)] (sR m g 60)) = some (T [inw m.pc && true, inb m.r7], .int .i64 0, 4, hRm (z3c_0 m) (memL g)) := by kernel_rfl
theorem o3c (hm : m.Ok) (hg : ∀ e, B8 (g e)) (hh : m.halt = false) (h0 : g (ix m.pc) = 60) : Both m g := by
  obtain ⟨r0, r1, r2, r3, r4, r5, r7, sp, pc⟩ := id hm
  exact joinA (m' := (z3c_0 m)) hm hh h0 (p3c_0 m g _ _) (r3c_0 m g) hg
@[simp] def z3d_0 (m : Mc) : Mc := { m with fp := par ((m.r7 - 1) % 256), fs := decide (128 ≤ (m.r7 - 1) % 256), fx := decide (15 < m.r7 % 16 + 15), fz := (m.r7 - 1) % 256 == 0, pc := w16 (m.pc + 1), r7 := (m.r7 - 1) % 256 }
theorem p3d_0 : endsAt [0, 1] (Ly.run ctx3 3000 [(22, true)] (sP m g 61 b1 b2)) = some (T [inb m.r7], .int .i64 0, 5, hPm (z3d_0 m) (memL g)) := by kernel_rfl
theorem r3d_0 : endsAt [0, 1, 2] (Ly.run ctx3 3000 [(4, true), (11, true)] (sR m g 61)) = some (T [inw m.pc && true, inb m.r7], .int .i64 0, 4, hRm (z3d_0 m) (memL g)) := by kernel_rfl
theorem o3d (hm : m.Ok) (hg : ∀ e, B8 (g e)) (hh : m.halt = false) (h0 : g (ix m.pc) = 61) : Both m g := by
  obtain ⟨r0, r1, r2, r3, r4, r5, r7, sp, pc⟩ := id hm
  exact joinA (m' := (z3d_0 m)) hm hh h0 (p3d_0 m g _ _) (r3d_0 m g) hg
theorem p3e_0 : endsAt [0, 1] (Ly.run ctx3 3000 [] (sP m g 62 b1 b2)) = some (T [], .int .i64 0, 5, hPm { m with pc := w16 (m.pc + 2), r7 := w8 (or16 0 (w16 b1)) } (memL g)) := by kernel_rfl
theorem r3e_0 : endsAt [0, 1, 2] (Ly.run ctx3 3000 [(3, true), (0, true), (0, true), (1, true)] (sR m g 62)) = some (T [inw m.pc && true, rg (w16 (m.pc + 1)), bl (ix (w16 (m.pc + 1))), inw m.pc && true], .int .i64 0, 3, hRm { m with pc := w16 (m.pc + 2), r7 := w8 (w16 (g (ix (w16 (m.pc + 1))))) } (memL g)) := by kernel_rfl
theorem o3e (hm : m.Ok) (hg : ∀ e, B8 (g e)) (hh : m.halt = false) (h0 : g (ix m.pc) = 62) : Both m g := by
  obtain ⟨r0, r1, r2, r3, r4, r5, r7, sp, pc⟩ := id hm
  exact joinA (m' := { m with pc := w16 (m.pc + 2), r7 := w8 (or16 0 (w16 (g (at1 m.pc 1)))) }) hm hh h0 (p3e_0 m g _ _) (r3e_0 m g) hg
@[simp] def z3f_0 (m : Mc) : Mc := { m with fc := !m.fc, pc := w16 (m.pc + 1) }
theorem p3f_0 : endsAt [0, 1] (Ly.run ctx3 3000 [] (sP m g 63 b1 b2)) = some (T [], .int .i64 0, 5, hPm (z3f_0 m) (memL g)) := by kernel_rfl
theorem r3f_0 : endsAt [0, 1, 2] (Ly.run ctx3 3000 [(4, true)] (sR m g 63)) = some (T [inw m.pc && true], .int .i64 0, 3, hRm (z3f_0 m) (memL g)) := by kernel_rfl
theorem o3f (hm : m.Ok) (hg : ∀ e, B8 (g e)) (hh : m.halt = false) (h0 : g (ix m.pc) = 63) : Both m g := by
  obtain ⟨r0, r1, r2, r3, r4, r5, r7, sp, pc⟩ := id hm
  exact joinA (m' := (z3f_0 m)) hm hh h0 (p3f_0 m g _ _) (r3f_0 m g) hg
theorem blk3 (m : Mc) (g : Nat → Int) (hm : m.Ok) (hg : ∀ e, B8 (g e)) (hh : m.halt = false) (h1 : 48 ≤ g (ix m.pc)) (h2 : g (ix m.pc) < 64) : Both m g := by
  have h : g (ix m.pc) = 48 ∨ g (ix m.pc) = 49 ∨ g (ix m.pc) = 50 ∨ g (ix m.pc) = 51 ∨ g (ix m.pc) = 52 ∨ g (ix m.pc) = 53 ∨ g (ix m.pc) = 54 ∨ g (ix m.pc) = 55 ∨ g (ix m.pc) = 56 ∨ g (ix m.pc) = 57 ∨ g (ix m.pc) = 58 ∨ g (ix m.pc) = 59 ∨ g (ix m.pc) = 60 ∨ g (ix m.pc) = 61 ∨ g (ix m.pc) = 62 ∨ g (ix m.pc) = 63 := by omega
  rcases h with h | h | h | h | h | h | h | h | h | h | h | h | h | h | h | h
  · exact o30 m g hm hg hh h
  · exact o31 m g hm hg hh h
  · exact o32 m g hm hg hh h
  · exact o33 m g hm hg hh h
  · exact o34 m g hm hg hh h
  · exact o35 m g hm hg hh h
  · exact o36 m g hm hg hh h
  · exact o37 m g hm hg hh h
  · exact o38 m g hm hg hh h
  · exact o39 m g hm hg hh h
  · exact o3a m g hm hg hh h
  · exact o3b m g hm hg hh h
  · exact o3c m g hm hg hh h
  · exact o3d m g hm hg hh h
  · exact o3e m g hm hg hh h
  · exact o3f m g hm hg hh h
end Go.Proofs.Ytpggoincnebfnaa
namespace Go.Proofs.Ytpggoincnebfnaa
open Go Go.Ly Go.RowKit
variable (m : Mc) (g : Nat → Int) (b1 b2 : Int)
theorem p40_0 : endsAt [0, 1] (Ly.run ctx3 3000 [] (sP m g 64 b1 b2)) = some (T [], .int .i64 0, 5, hPm { m with pc := w16 (m.pc + 1) } (memL g)) := by kernel_rfl
theorem r40_0 : endsAt [0, 1, 2] (Ly.run ctx3 3000 [(4, true)] (sR m g 64)) = some (T [inw m.pc && true], .int .i64 0, 3, hRm { m with pc := w16 (m.pc + 1) } (memL g)) := by kernel_rfl
theorem o40 (hm : m.Ok) (hg : ∀ e, B8 (g e)) (hh : m.halt = false) (h0 : g (ix m.pc) = 64) : Both m g := by
  obtain ⟨r0, r1, r2, r3, r4, r5, r7, sp, pc⟩ := id hm
  exact joinA (m' := { m with pc := w16 (m.pc + 1) }) hm hh h0 (p40_0 m g _ _) (r40_0 m g) hg
@[simp] def z41_0 (m : Mc) : Mc := { m with pc := w16 (m.pc + 1), r0 := m.r1 }
theorem p41_0 : endsAt [0, 1] (Ly.run ctx3 3000 [] (sP m g 65 b1 b2)) = some (T [], .int .i64 0, 5, hPm (z41_0 m) (memL g)) := by kernel_rfl
theorem r41_0 : endsAt [0, 1, 2] (Ly.run ctx3 3000 [(4, true)] (sR m g 65)) = some (T [inw m.pc && true], .int .i64 0, 3, hRm (z41_0 m) (memL g)) := by kernel_rfl
theorem o41 (hm : m.Ok) (hg : ∀ e, B8 (g e)) (hh : m.halt = false) (h0 : g (ix m.pc) = 65) : Both m g := by
  obtain ⟨r0, r1, r2, r3, r4, r5, r7, sp, pc⟩ := id hm
  exact joinA (m' := (z41_0 m)) hm hh h0 (p41_0 m g _ _) (r41_0 m g) hg
@[simp] def z42_0 (m : Mc) : Mc := { m with pc := w16 (m.pc + 1), r0 := m.r2 }
theorem p42_0 : endsAt [0, 1] (Ly.run ctx3 3000 [] (sP m g 66 b1 b2)) = some (T [], .int .i64 0, 5, hPm (z42_0 m) (memL g)) := by kernel_rfl
theorem r42_0 : endsAt [0, 1, 2] (Ly.run ctx3 3000 [(4, true)] (sR m g 66)) = some (T [inw m.pc && true], .int .i64 0, 3, hRm (z42_0 m) (memL g)) := by kernel_rfl
theorem o42 (hm : m.Ok) (hg : ∀ e, B8 (g e)) (hh : m.halt = false) (h0 : g (ix m.pc) = 66) : Both m g := by
  obtain ⟨r0, r1, r2, r3, r4, r5, r7, sp, pc⟩ := id hm
  exact joinA (m' := (z42_0 m)) hm hh h0 (p42_0 m g _ _) (r42_0 m g) hg
@[simp] def z43_0 (m : Mc) : Mc := { m with pc := w16 (m.pc + 1), r0 := m.r3 }
theorem p43_0 : endsAt [0, 1] (Ly.run ctx3 3000 [] (sP m g 67 b1 b2)) = some (T [], .int .i64 0, 5, hPm (z43_0 m) (memL g)) := by kernel_rfl
theorem r43_0 : endsAt [0, 1, 2] (Ly.run ctx3 3000 [(4, true)] (sR m g 67)) = some (T [inw m.pc && true], .int .i64 0, 3, hRm (z43_0 m) (memL g)) := by kernel_rfl
theorem o43 (hm : m.Ok) (hg : ∀ e, B8 (g e)) (hh : m.halt = false) (h0 : g (ix m.pc) = 67) : Both m g := by
  obtain ⟨r0, r1, r2, r3, r4, r5, r7, sp, pc⟩ := id hm
  exact joinA (m' := (z43_0 m)) hm hh h0 (p43_0 m g _ _) (r43_0 m g) hg
@[simp] def z44_0 (m : Mc) : Mc := { m with pc := w16 (m.pc + 1), r0 := m.r4 }
theorem p44_0 : endsAt [0, 1] (Ly.run ctx3 3000 [] (sP m g 68 b1 b2)) = some (T [], .int .i64 0, 5, hPm (z44_0 m) (memL g)) := by kernel_rfl
theorem r44_0 : endsAt [0, 1, 2] (Ly.run ctx3 3000 [(4, true)] (sR m g 68)) = some (T [inw m.pc && true], .int .i64 0, 3, hRm (z44_0 m) (memL g)) := by kernel_rfl
theorem o44 (hm : m.Ok) (hg : ∀ e, B8 (g e)) (hh : m.halt = false) (h0 : g (ix m.pc) = 68) : Both m g := by
  obtain ⟨r0, r1, r2, r3, r4, r5, r7, sp, pc⟩ := id hm
  exact joinA (m' := (z44_0 m)) hm hh h0 (p44_0 m g _ _) (r44_0 m g) hg
@[simp] def z45_0 (m : Mc) : Mc := { m with pc := w16 (m.pc + 1), r0 := m.r5 }
theorem p45_0 : endsAt [0, 1] (Ly.run ctx3 3000 [] (sP m g 69 b1 b2)) = some (T [], .int .i64 0, 5, hPm (z45_0 m) (memL g)) := by kernel_rfl
theorem r45_0 : endsAt [0, 1, 2] (Ly.run ctx3 3000 [(4, true)] (sR m g 69)) = some (T [inw m.pc && true], .int .i64 0, 3, hRm (z45_0 m) (memL g)) := by kernel_rfl
theorem o45 (hm : m.Ok) (hg : ∀ e, B8 (g e)) (hh : m.halt = false) (h0 : g (ix m.pc) = 69) : Both m g := by
  obtain ⟨r0, r1, r2, r3, r4, r5, r7, sp, pc⟩ := id hm
  exact joinA (m' := (z45_0 m)) hm hh h0 (p45_0 m g _ _) (r45_0 m g) hg
@[simp] def z46_0 (m : Mc) (g : Nat → Int) : Mc := { m with pc := w16 (m.pc + 1), r0 := g (ix (or16 (w16 (w16 m.r4 * 256)) (w16 m.r5))) }
theorem p46_0 : endsAt [0, 1] (Ly.run ctx3 3000 [(28, true), (0, true)] (sP m g 70 b1 b2)) = some (T [(true && lt16 (or16 (w16 (w16 m.r4 * 256)) (w16 m.r5))), bl (ix (or16 (w16 (w16 m.r4 * 256)) (w16 m.r5)))], .int .i64 0, 5, hPm (z46_0 m g) (memL g)) := by kernel_rfl
theorem r46_0 : endsAt [0, 1, 2] (Ly.run ctx3 3000 [(4, true), (11, true), (0, true), (0, true)] (sR m g 70)) = some (T [inw m.pc && true, inb m.r4 && inb m.r5, rg (256 * m.r4 + m.r5), bl (ix (256 * m.r4 + m.r5))], .int .i64 0, 3, hRm { m with pc := w16 (m.pc + 1), r0 := g (ix (256 * m.r4 + m.r5)) } (memL g)) := by kernel_rfl
theorem o46 (hm : m.Ok) (hg : ∀ e, B8 (g e)) (hh : m.halt = false) (h0 : g (ix m.pc) = 70) : Both m g := by
  obtain ⟨r0, r1, r2, r3, r4, r5, r7, sp, pc⟩ := id hm
  exact joinA (m' := (z46_0 m g)) hm hh h0 (p46_0 m g _ _) (r46_0 m g) hg
@[simp] def z47_0 (m : Mc) : Mc := { m with pc := w16 (m.pc + 1), r0 := m.r7 }
theorem p47_0 : endsAt [0, 1] (Ly.run ctx3 3000 [] (sP m g 71 b1 b2)) = some (T [], .int .i64 0, 5, hPm (z47_0 m) (memL g)) := by kernel_rfl
theorem r47_0 : endsAt [0, 1, 2] (Ly.run ctx3 3000 [(4, true)] (sR m g 71)) = some (T [inw m.pc && true], .int .i64 0, 3, hRm (z47_0 m) (memL g)) := by kernel_rfl
theorem o47 (hm : m.Ok) (hg : ∀ e, B8 (g e)) (hh : m.halt = false) (h0 : g (ix m.pc) = 71) : Both m g := by
  obtain ⟨r0, r1, r2, r3, r4, r5, r7, sp, pc⟩ := id hm
  exact joinA (m' := (z47_0 m)) hm hh h0 (p47_0 m g _ _) (r47_0 m g) hg
@[simp] def z48_0 (m : Mc) : Mc := { m with pc := w16 (m.pc + 1), r1 := m.r0 }
theorem p48_0 : endsAt [0, 1] (Ly.run ctx3 3000 [] (sP m g 72 b1 b2)) = some (T [], .int .i64 0, 5, hPm (z48_0 m) (memL g)) := by kernel_rfl
theorem r48_0 : endsAt [0, 1, 2] (Ly.run ctx3 3000 [(4, true)] (sR m g 72)) = some (T [inw m.pc && true], .int .i64 0, 3, hRm (z48_0 m) (memL g)) := by kernel_rfl
theorem o48 (hm : m.Ok) (hg : ∀ e, B8 (g e)) (hh : m.halt = false) (h0 : g (ix m.pc) = 72) : Both m g := by
  obtain ⟨r0, r1, r2, r3, r4, r5, r7, sp, pc⟩ := id hm
  exact joinA (m' := (z48_0 m)) hm hh h0 (p48_0 m g _ _) (r48_0 m g) hg
theorem p49_0 : endsAt [0, 1] (Ly.run ctx3 3000 [] (sP m g 73 b1 b2)) = some (T [], .int .i64 0, 5, hPm { m with pc := w16 (m.pc + 1) } (memL g)) := by kernel_rfl
theorem r49_0 : endsAt [0, 1, 2] (Ly.run ctx3 3000 [(4, true)] (sR m g 73)) = some (T [inw m.pc && true], .int .i64 0, 3, hRm { m with pc := w16 (m.pc + 1) } (memL g)) := by kernel_rfl
theorem o49 (hm : m.Ok) (hg : ∀ e, B8 (g e)) (hh : m.halt = false) (h0 : g (ix m.pc) = 73) : Both m g := by
  obtain ⟨r0, r1, r2, r3, r4, r5, r7, sp, pc⟩ := id hm
  exact joinA (m' := { m with pc := w16 (m.pc + 1) }) hm hh h0 (p49_0 m g _ _) (r49_0 m g) hg
@[simp] def z4a_0 (m : Mc) : Mc := { m with pc := w16 (m.pc + 1), r1 := m.r2 }
theorem p4a_0 : endsAt [0, 1] (Ly.run ctx3 3000 [] (sP m g 74 b1 b2)) = some (T [], .int .i64 0, 5, hPm (z4a_0 m) (memL g)) := by kernel_rfl
theorem r4a_0 : endsAt [0, 1, 2] (Ly.run ctx3 3000 [(4, true)] (sR m g 74)) = some (T [inw m.pc && true], .int .i64 0, 3, hRm (z4a_0 m) (memL g)) := by kernel_rfl
theorem o4a (hm : m.Ok) (hg : ∀ e, B8 (g e)) (hh : m.halt = false) (h0 : g (ix m.pc) = 74) : Both m g := by
  obtain ⟨r0, r1, r2, r3, r4, r5, r7, sp, pc⟩ := id hm
  exact joinA (m' := (z4a_0 m)) hm hh h0 (p4a_0 m g _ _) (r4a_0 m g) hg
@[simp] def z4b_0 (m : Mc) : Mc := { m with pc := w16 (m.pc + 1), r1 := m.r3 }
theorem p4b_0 : endsAt [0, 1] (Ly.run ctx3 3000 [] (sP m g 75 b1 b2)) = some (T [], .int .i64 0, 5, hPm (z4b_0 m) (memL g)) := by kernel_rfl
theorem r4b_0 : endsAt [0, 1, 2] (Ly.run ctx3 3000 [(4, true)] (sR m g 75)) = some (T [inw m.pc && true], .int .i64 0, 3, hRm (z4b_0 m) (memL g)) := by kernel_rfl
theorem o4b (hm : m.Ok) (hg : ∀ e, B8 (g e)) (hh : m.halt = false) (h0 : g (ix m.pc) = 75) : Both m g := by
  obtain ⟨r0, r1, r2, r3, r4, r5, r7, sp, pc⟩ := id hm
  exact joinA (m' := (z4b_0 m)) hm hh h0 (p4b_0 m g _ _) (r4b_0 m g) hg
@[simp] def z4c_0 (m : Mc) : Mc := { m with pc := w16 (m.pc + 1), r1 := m.r4 }
theorem p4c_0 : endsAt [0, 1] (Ly.run ctx3 3000 [] (sP m g 76 b1 b2)) = some (T [], .int .i64 0, 5, hPm (z4c_0 m) (memL g)) := by kernel_rfl
theorem r4c_0 : endsAt [0, 1, 2] (Ly.run ctx3 3000 [(4, true)] (sR m g 76)) = some (T [inw m.pc && true], .int .i64 0, 3, hRm (z4c_0 m) (memL g)) := by kernel_rfl
theorem o4c (hm : m.Ok) (hg : ∀ e, B8 (g e)) (hh : m.halt = false) (h0 : g (ix m.pc) = 76) : Both m g := by
  obtain ⟨r0, r1, r2, r3, r4, r5, r7, sp, pc⟩ := id hm
  exact joinA (m' := (z4c_0 m)) hm hh h0 (p4c_0 m g _ _) (r4c_0 m g) hg
@[simp] def z4d_0 (m : Mc) : Mc := { m with pc := w16 (m.pc + 1), r1 := m.r5 }
theorem p4d_0 : endsAt [0, 1] (Ly.run ctx3 3000 [] (sP m g 77 b1 b2)) = some (T [], .int .i64 0, 5, hPm (z4d_0 m) (memL g)) := by kernel_rfl
theorem r4d_0 : endsAt [0, 1, 2] (Ly.run ctx3 3000 [(4, true)] (sR m g 77)) = some (T [inw m.pc && true], .int .i64 0, 3, hRm (z4d_0 m) (memL g)) := by kernel_rfl
theorem o4d (hm : m.Ok) (hg : ∀ e, B8 (g e)) (hh : m.halt = false) (h0 : g (ix m.pc) = 77) : Both m g := by
  obtain ⟨r0, r1, r2, r3, r4, r5, r7, sp, pc⟩ := id hm
  exact joinA (m' := (z4d_0 m)) hm hh h0 (p4d_0 m g _ _) (r4d_0 m g) hg
@[simp] def z4e_0 (m : Mc) (g : Nat → Int) : Mc := { m with pc := w16 (m.pc + 1), r1 := g (ix (or16 (w16 (w16 m.r4 * 256)) (w16 m.r5))) }
theorem p4e_0 : endsAt [0, 1] (Ly.run ctx3 3000 [(28, true), (0, true)] (sP m g 78 b1 b2)) = some (T [(true && lt16 (or16 (w16 (w16 m.r4 * 256)) (w16 m.r5))), bl (ix (or16 (w16 (w16 m.r4 * 256)) (w16 m.r5)))], .int .i64 0, 5, hPm (z4e_0 m g) (memL g)) := by kernel_rfl
theorem r4e_0 : endsAt [0, 1, 2] (Ly.run ctx3 3000 [(4, true), (11, true), (0, true), (0, true)] (sR m g 78)) = some (T [inw m.pc && true, inb m.r4 && inb m.r5, rg (256 * m.r4 + m.r5), bl (ix (256 * m.r4 + m.r5))], .int .i64 0, 3, hRm { m with pc := w16 (m.pc + 1), r1 := g (ix (256 * m.r4 + m.r5)) } (memL g)) := by kernel_rfl
theorem o4e (hm : m.Ok) (hg : ∀ e, B8 (g e)) (hh : m.halt = false) (h0 : g (ix m.pc) = 78) : Both m g := by
  obtain ⟨r0, r1, r2, r3, r4, r5, r7, sp, pc⟩ := id hm
  exact joinA (m' := (z4e_0 m g)) hm hh h0 (p4e_0 m g _ _) (r4e_0 m g) hg
@[simp] def z4f_0 (m : Mc) : Mc := { m with pc := w16 (m.pc + 1), r1 := m.r7 }
theorem p4f_0 : endsAt [0, 1] (Ly.run ctx3 3000 [] (sP m g 79 b1 b2)) = some (T [], .int .i64 0, 5, hPm (z4f_0 m) (memL g)) := by kernel_rfl
theorem r4f_0 : endsAt [0, 1, 2] (Ly.run ctx3 3000 [(4, true)] (sR m g 79)) = some (T [inw m.pc && true], .int .i64 0, 3, hRm (z4f_0 m) (memL g)) := by kernel_rfl
theorem o4f (hm : m.Ok) (hg : ∀ e, B8 (g e)) (hh : m.halt = false) (h0 : g (ix m.pc) = 79) : Both m g := by
  obtain ⟨r0, r1, r2, r3, r4, r5, r7, sp, pc⟩ := id hm
  exact joinA (m' := (z4f_0 m)) hm hh h0 (p4f_0 m g _ _) (r4f_0 m g) hg
theorem blk4 (m : Mc) (g : Nat → Int) (hm : m.Ok) (hg : ∀ e, B8 (g e)) (hh : m.halt = false) (h1 : 64 ≤ g (ix m.pc)) (h2 : g (ix m.pc) < 80) : Both m g := by
  have h : g (ix m.pc) = 64 ∨ g (ix m.pc) = 65 ∨ g (ix m.pc) = 66 ∨ g (ix m.pc) = 67 ∨ g (ix m.pc) = 68 ∨ g (ix m.pc) = 69 ∨ g (ix m.pc) = 70 ∨ g (ix m.pc) = 71 ∨ g (ix m.pc) = 72 ∨ g (ix m.pc) = 73 ∨ g (ix m.pc) = 74 ∨ g (ix m.pc) = 75 ∨ g (ix m.pc) = 76 ∨ g (ix m.pc) = 77 ∨ g (ix m.pc) = 78 ∨ g (ix m.pc) = 79 := by omega
  rcases h with h | h | h | h | h | h | h | h | h | h | h | h | h | h | h | h
  · exact o40 m g hm hg hh h
  · exact o41 m g hm hg hh h
  · exact o42 m g hm hg hh h
  · exact o43 m g hm hg hh h
  · exact o44 m g hm hg hh h
  · exact o45 m g hm hg hh h
  · exact o46 m g hm hg hh h
  · exact o47 m g hm hg hh h
  · exact o48 m g hm hg hh h
  · exact o49 m g hm hg hh h
  · exact o4a m g hm hg hh h
  · exact o4b m g hm hg hh h
  · exact o4c m g hm hg hh h
  · exact o4d m g hm hg hh h
  · exact o4e m g hm hg hh h
  · exact o4f m g hm hg hh h
end Go.Proofs.Ytpggoincnebfnaa
namespace Go.Proofs.Ytpggoincnebfnaa
open Go Go.Ly Go.RowKit
variable (m : Mc) (g : Nat → Int) (b1 b2 : Int)
@[simp] def z50_0 (m : Mc) : Mc := { m with pc := w16 (m.pc + 1), r2 := m.r0 }
theorem p50_0 : endsAt [0, 1] (Ly.run ctx3 3000 [] (sP m g 80 b1 b2)) = some (T [], .int .i64 0, 5, hPm (z50_0 m) (memL g)) := by kernel_rfl
theorem r50_0 : endsAt [0, 1, 2] (Ly.run ctx3 3000 [(4, true)] (sR m g 80)) = some (T [inw m.pc && true], .int .i64 0, 3, hRm (z50_0 m) (memL g)) := by kernel_rfl
theorem o50 (hm : m.Ok) (hg : ∀ e, B8 (g e)) (hh : m.halt = false) (h0 : g (ix m.pc) = 80) : Both m g := by
  obtain ⟨r0, r1, r2, r3, r4, r5, r7, sp, pc⟩ := id hm
  exact joinA (m' := (z50_0 m)) hm hh h0 (p50_0 m g _ _) (r50_0 m g) hg
@[simp] def z51_0 (m : Mc) : Mc := { m with pc := w16 (m.pc + 1), r2 := m.r1 }
theorem p51_0 : endsAt [0, 1] (Ly.run ctx3 3000 [] (sP m g 81 b1 b2)) = some (T [], .int .i64 0, 5, hPm (z51_0 m) (memL g)) := by kernel_rfl
theorem r51_0 : endsAt [0, 1, 2] (Ly.run ctx3 3000 [(4, true)] (sR m g 81)) = some (T [inw m.pc && true], .int .i64 0, 3, hRm (z51_0 m) (memL g)) := by kernel_rfl
theorem o51 (hm : m.Ok) (hg : ∀ e, B8 (g e)) (hh : m.halt = false) (h0 : g (ix m.pc) = 81) : Both m g := by
  obtain ⟨r0, r1, r2, r3, r4, r5, r7, sp, pc⟩ := id hm
  exact joinA (m' := (z51_0 m)) hm hh h0 (p51_0 m g _ _) (r51_0 m g) hg
theorem p52_0 : endsAt [0, 1] (Ly.run ctx3 3000 [] (sP m g 82 b1 b2)) = some (T [], .int .i64 0, 5, hPm { m with pc := w16 (m.pc + 1) } (memL g)) := by kernel_rfl
theorem r52_0 : endsAt [0, 1, 2] (Ly.run ctx3 3000 [(4, true)] (sR m g 82)) = some (T [inw m.pc && true], .int .i64 0, 3, hRm { m with pc := w16 (m.pc + 1) } (memL g)) := by kernel_rfl
theorem o52 (hm : m.Ok) (hg : ∀ e, B8 (g e)) (hh : m.halt = false) (h0 : g (ix m.pc) = 82) : Both m g := by
  obtain ⟨r0, r1, r2, r3, r4, r5, r7, sp, pc⟩ := id hm
  exact joinA (m' := { m with pc := w16 (m.pc + 1) }) hm hh h0 (p52_0 m g _ _) (r52_0 m g) hg
@[simp] def z53_0 (m : Mc) : Mc := { m with pc := w16 (m.pc + 1), r2 := m.r3 }
theorem p53_0 : endsAt [0, 1] (Ly.run ctx3 3000 [] (sP m g 83 b1 b2)) = some (T [], .int .i64 0, 5, hPm (z53_0 m) (memL g)) := by kernel_rfl
theorem r53_0 : endsAt [0, 1, 2] (Ly.run ctx3 3000 [(4, true)] (sR m g 83)) = some (T [inw m.pc && true], .int .i64 0, 3, hRm (z53_0 m) (memL g)) := by kernel_rfl
theorem o53 (hm : m.Ok) (hg : ∀ e, B8 (g e)) (hh : m.halt = false) (h0 : g (ix m.pc) = 83) : Both m g := by
  obtain ⟨r0, r1, r2, r3, r4, r5, r7, sp, pc⟩ := id hm
  exact joinA (m' := (z53_0 m)) hm hh h0 (p53_0 m g _ _) (r53_0 m g) hg
@[simp] def z54_0 (m : Mc) : Mc := { m with pc := w16 (m.pc + 1), r2 := m.r4 }
theorem p54_0 : endsAt [0, 1] (Ly.run ctx3 3000 [] (sP m g 84 b1 b2)) = some (T [], .int .i64 0, 5, hPm (z54_0 m) (memL g)) := by kernel_rfl
theorem r54_0 : endsAt [0, 1, 2] (Ly.run ctx3 3000 [(4, true)] (sR m g 84)) = some (T [inw m.pc && true], .int .i64 0, 3, hRm (z54_0 m) (memL g)) := by kernel_rfl
theorem o54 (hm : m.Ok) (hg : ∀ e, B8 (g e)) (hh : m.halt = false) (h0 : g (ix m.pc) = 84) : Both m g := by
  obtain ⟨r0, r1, r2, r3, r4, r5, r7, sp, pc⟩ := id hm
  exact joinA (m' := (z54_0 m)) hm hh h0 (p54_0 m g _ _) (r54_0 m g) hg
@[simp] def z55_0 (m : Mc) : Mc := { m with pc := w16 (m.pc + 1), r2 := m.r5 }
theorem p55_0 : endsAt [0, 1] (Ly.run ctx3 3000 [] (sP m g 85 b1 b2)) = some (T [], .int .i64 0, 5, hPm (z55_0 m) (memL g)) := by kernel_rfl
theorem r55_0 : endsAt [0, 1, 2] (Ly.run ctx3 3000 [(4, true)] (sR m g 85)) = some (T [inw m.pc && true], .int .i64 0, 3, hRm (z55_0 m) (memL g)) := by kernel_rfl
theorem o55 (hm : m.Ok) (hg : ∀ e, B8 (g e)) (hh : m.halt = false) (h0 : g (ix m.pc) = 85) : Both m g := by
  obtain ⟨r0, r1, r2, r3, r4, r5, r7, sp, pc⟩ := id hm
  exact joinA (m' := (z55_0 m)) hm hh h0 (p55_0 m g _ _) (r55_0 m g) hg
@[simp] def z56_0 (m : Mc) (g : Nat → Int) : Mc := { m with pc := w16 (m.pc + 1), r2 := g (ix (or16 (w16 (w16 m.r4 * 256)) (w16 m.r5))) }
theorem p56_0 : endsAt [0, 1] (Ly.run ctx3 3000 [(28, true), (0, true)] (sP m g 86 b1 b2)) = some (T [(true && lt16 (or16 (w16 (w16 m.r4 * 256)) (w16 m.r5))), bl (ix (or16 (w16 (w16 m.r4 * 256)) (w16 m.r5)))], .int .i64 0, 5, hPm (z56_0 m g) (memL g)) := by kernel_rfl
theorem r56_0 : endsAt [0, 1, 2] (Ly.run ctx3 3000 [(4, true), (11, true), (0, true), (0, true)] (sR m g 86)) = some (T [inw m.pc && true, inb m.r4 && inb m.r5, rg (256 * m.r4 + m.r5), bl (ix (256 * m.r4 + m.r5))], .int .i64 0, 3, hRm { m with pc := w16 (m.pc + 1), r2 := g (ix (256 * m.r4 + m.r5)) } (memL g)) := by kernel_rfl
theorem o56 (hm : m.Ok) (hg : ∀ e, B8 (g e)) (hh : m.halt = false) (h0 : g (ix m.pc) = 86) : Both m g := by
  obtain ⟨r0, r1, r2, r3, r4, r5, r7, sp, pc⟩ := id hm
  exact joinA (m' := (z56_0 m g)) hm hh h0 (p56_0 m g _ _) (r56_0 m g) hg
@[simp] def z57_0 (m : Mc) : Mc := { m with pc := w16 (m.pc + 1), r2 := m.r7 }
theorem p57_0 : endsAt [0, 1] (Ly.run ctx3 3000 [] (sP m g 87 b1 b2)) = some (T [], .int .i64 0, 5, hPm (z57_0 m) (memL g)) := by kernel_rfl
theorem r57_0 : endsAt [0, 1, 2] (Ly.run ctx3 3000 [(4, true)] (sR m g 87)) = some (T [inw m.pc && true], .int .i64 0, 3, hRm (z57_0 m) (memL g)) := by kernel_rfl
theorem o57 (hm : m.Ok) (hg : ∀ e, B8 (g e)) (hh : m.halt = false) (h0 : g (ix m.pc) = 87) : Both m g := by
  obtain ⟨r0, r1, r2, r3, r4, r5, r7, sp, pc⟩ := id hm
  exact joinA (m' := (z57_0 m)) hm hh h0 (p57_0 m g _ _) (r57_0 m g) hg
@[simp] def z58_0 (m : Mc) : Mc := { m with pc := w16 (m.pc + 1), r3 := m.r0 }
theorem p58_0 : endsAt [0, 1] (Ly.run ctx3 3000 [] (sP m g 88 b1 b2)) = some (T [], .int .i64 0, 5, hPm (z58_0 m) (memL g)) := by kernel_rfl
theorem r58_0 : endsAt [0, 1, 2] (Ly.run ctx3 3000 [(4, true)] (sR m g 88)) = some (T [inw m.pc && true], .int .i64 0, 3, hRm (z58_0 m) (memL g)) := by kernel_rfl
theorem o58 (hm : m.Ok) (hg : ∀ e, B8 (g e)) (hh : m.halt = false) (h0 : g (ix m.pc) = 88) : Both m g := by
  obtain ⟨r0, r1, r2, r3, r4, r5, r7, sp, pc⟩ := id hm
  exact joinA (m' := (z58_0 m)) hm hh h0 (p58_0 m g _ _) (r58_0 m g) hg
@[simp] def z59_0 (m : Mc) : Mc := { m with pc := w16 (m.pc + 1), r3 := m.r1 }
theorem p59_0 : endsAt [0, 1] (Ly.run ctx3 3000 [] (sP m g 89 b1 b2)) = some (T [], .int .i64 0, 5, hPm (z59_0 m) (memL g)) := by kernel_rfl
theorem r59_0 : endsAt [0, 1, 2] (Ly.run ctx3 3000 [(4, true)] (sR m g 89)) = some (T [inw m.pc && true], .int .i64 0, 3, hRm (z59_0 m) (memL g)) := by kernel_rfl
theorem o59 (hm : m.Ok) (hg : ∀ e, B8 (g e)) (hh : m.halt = false) (h0 : g (ix m.pc) = 89) : Both m g := by
  obtain ⟨r0, r1, r2, r3, r4, r5, r7, sp, pc⟩ := id hm
  exact joinA (m' := (z59_0 m)) hm hh h0 (p59_0 m g _ _) (r59_0 m g) hg
@[simp] def z5a_0 (m : Mc) : Mc := { m with pc := w16 (m.pc + 1), r3 := m.r2 }
theorem p5a_0 : endsAt [0, 1] (Ly.run ctx3 3000 [] (sP m g 90 b1 b2)) = some (T [], .int .i64 0, 5, hPm (z5a_0 m) (memL g)) := by kernel_rfl
theorem r5a_0 : endsAt [0, 1, 2] (Ly.run ctx3 3000 [(4, true)] (sR m g 90)) = some (T [inw m.pc && true], .int .i64 0, 3, hRm (z5a_0 m) (memL g)) := by kernel_rfl
theorem o5a (hm : m.Ok) (hg : ∀ e, B8 (g e)) (hh : m.halt = false) (h0 : g (ix m.pc) = 90) : Both m g := by
  obtain ⟨r0, r1, r2, r3, r4, r5, r7, sp, pc⟩ := id hm
  exact joinA (m' := (z5a_0 m)) hm hh h0 (p5a_0 m g _ _) (r5a_0 m g) hg
theorem p5b_0 : endsAt [0, 1] (Ly.run ctx3 3000 [] (sP m g 91 b1 b2)) = some (T [], .int .i64 0, 5, hPm { m with pc := w16 (m.pc + 1) } (memL g)) := by kernel_rfl
theorem r5b_0 : endsAt [0, 1, 2] (Ly.run ctx3 3000 [(4, true)] (sR m g 91)) = some (T [inw m.pc && true], .int .i64 0, 3, hRm { m with pc := w16 (m.pc + 1) } (memL g)) := by kernel_rfl
theorem o5b (hm : m.Ok) (hg : ∀ e, B8 (g e)) (hh : m.halt = false) (h0 : g (ix m.pc) = 91) : Both m g := by
  obtain ⟨r0, r1, r2, r3, r4, r5, r7, sp, pc⟩ := id hm
  exact joinA (m' := { m with pc := w16 (m.pc + 1) }) hm hh h0 (p5b_0 m g _ _) (r5b_0 m g) hg
@[simp] def z5c_0 (m : Mc) : Mc := { m with pc := w16 (m.pc + 1), r3 := m.r4 }
theorem p5c_0 : endsAt [0, 1] (Ly.run ctx3 3000 [] (sP m g 92 b1 b2)) = some (T [], .int .i64 0, 5, hPm (z5c_0 m) (memL g)) := by kernel_rfl
theorem r5c_0 : endsAt [0, 1, 2] (Ly.run ctx3 3000 [(4, true)] (sR m g 92)) = some (T [inw m.pc && true], .int .i64 0, 3, hRm (z5c_0 m) (memL g)) := by kernel_rfl
theorem o5c (hm : m.Ok) (hg : ∀ e, B8 (g e)) (hh : m.halt = false) (h0 : g (ix m.pc) = 92) : Both m g := by
  obtain ⟨r0, r1, r2, r3, r4, r5, r7, sp, pc⟩ := id hm
  exact joinA (m' := (z5c_0 m)) hm hh h0 (p5c_0 m g _ _) (r5c_0 m g) hg
@[simp] def z5d_0 (m : Mc) : Mc := { m with pc := w16 (m.pc + 1), r3 := m.r5 }
theorem p5d_0 : endsAt [0, 1] (Ly.run ctx3 3000 [] (sP m g 93 b1 b2)) = some (T [], .int .i64 0, 5, hPm (z5d_0 m) (memL g)) := by kernel_rfl
theorem r5d_0 : endsAt [0, 1, 2] (Ly.run ctx3 3000 [(4, true)] (sR m g 93)) = some (T [inw m.pc && true], .int .i64 0, 3, hRm (z5d_0 m) (memL g)) := by kernel_rfl
theorem o5d (hm : m.Ok) (hg : ∀ e, B8 (g e)) (hh : m.halt = false) (h0 : g (ix m.pc) = 93) : Both m g := by
  obtain ⟨r0, r1, r2, r3, r4, r5, r7, sp, pc⟩ := id hm
  exact joinA (m' := (z5d_0 m)) hm hh h0 (p5d_0 m g _ _) (r5d_0 m g) hg
@[simp] def z5e_0 (m : Mc) (g : Nat → Int) : Mc := { m with pc := w16 (m.pc + 1), r3 := g (ix (or16 (w16 (w16 m.r4 * 256)) (w16 m.r5))) }
theorem p5e_0 : endsAt [0, 1] (Ly.run ctx3 3000 [(28, true), (0, true)] (sP m g 94 b1 b2)) = some (T [(true && lt16 (or16 (w16 (w16 m.r4 * 256)) (w16 m.r5))), bl (ix (or16 (w16 (w16 m.r4 * 256)) (w16 m.r5)))], .int .i64 0, 5, hPm (z5e_0 m g) (memL g)) := by kernel_rfl
theorem r5e_0 : endsAt [0, 1, 2] (Ly.run ctx3 3000 [(4, true), (11, true), (0, true), (0, true)] (sR m g 94)) = some (T [inw m.pc && true, inb m.r4 && inb m.r5, rg (256 * m.r4 + m.r5), bl (ix (256 * m.r4 + m.r5))], .int .i64 0, 3, hRm { m with pc := w16 (m.pc + 1), r3 := g (ix (256 * m.r4 + m.r5)) } (memL g)) := by kernel_rfl
theorem o5e (hm : m.Ok) (hg : ∀ e, B8 (g e)) (hh : m.halt = false) (h0 : g (ix m.pc) = 94) : Both m g := by
  obtain ⟨r0, r1, r2, r3, r4, r5, r7, sp, pc⟩ := id hm
  exact joinA (m' := (z5e_0 m g)) hm hh h0 (p5e_0 m g _ _) (r5e_0 m g) hg
@[simp] def z5f_0 (m : Mc) : Mc := { m with pc := w16 (m.pc + 1), r3 := m.r7 }
theorem p5f_0 : endsAt [0, 1] (Ly.run ctx3 3000 [] (sP m g 95 b1 b2)) = some (T [], .int .i64 0, 5, hPm (z5f_0 m) (memL g)) := by kernel_rfl
theorem r5f_0 : endsAt [0, 1, 2] (Ly.run ctx3 3000 [(4, true)] (sR m g 95)) = some (T [inw m.pc && true], .int .i64 0, 3, hRm (z5f_0 m) (memL g)) := by kernel_rfl
theorem o5f (hm : m.Ok) (hg : ∀ e, B8 (g e)) (hh : m.halt = false) (h0 : g (ix m.pc) = 95) : Both m g := by
  obtain ⟨r0, r1, r2, r3, r4, r5, r7, sp, pc⟩ := id hm
  exact joinA (m' := (z5f_0 m)) hm hh h0 (p5f_0 m g _ _) (r5f_0 m g) hg
theorem blk5 (m : Mc) (g : Nat → Int) (hm : m.Ok) (hg : ∀ e, B8 (g e)) (hh : m.halt = false) (h1 : 80 ≤ g (ix m.pc)) (h2 : g (ix m.pc) < 96) : Both m g := by
  have h : g (ix m.pc) = 80 ∨ g (ix m.pc) = 81 ∨ g (ix m.pc) = 82 ∨ g (ix m.pc) = 83 ∨ g (ix m.pc) = 84 ∨ g (ix m.pc) = 85 ∨ g (ix m.pc) = 86 ∨ g (ix m.pc) = 87 ∨ g (ix m.pc) = 88 ∨ g (ix m.pc) = 89 ∨ g (ix m.pc) = 90 ∨ g (ix m.pc) = 91 ∨ g (ix m.pc) = 92 ∨ g (ix m.pc) = 93 ∨ g (ix m.pc) = 94 ∨ g (ix m.pc) = 95 := by omega
  rcases h with h | h | h | h | h | h | h | h | h | h | h | h | h | h | h | h
  · exact o50 m g hm hg hh h
  · exact o51 m g hm hg hh h
  · exact o52 m g hm hg hh h
  · exact o53 m g hm hg hh h
  · exact o54 m g hm hg hh h
  · exact o55 m g hm hg hh h
  · exact o56 m g hm hg hh h
  · exact o57 m g hm hg hh h
  · exact o58 m g hm hg hh h
  · exact o59 m g hm hg hh h
  · exact o5a m g hm hg hh h
  · exact o5b m g hm hg hh h
  · exact o5c m g hm hg hh h
  · exact o5d m g hm hg hh h
  · exact o5e m g hm hg hh h
  · exact o5f m g hm hg hh h
end Go.Proofs.Ytpggoincnebfnaa
namespace Go.Proofs.Ytpggoincnebfnaa
open Go Go.Ly Go.RowKit
variable (m : Mc) (g : Nat → Int) (b1 b2 : Int)
@[simp] def z60_0 (m : Mc) : Mc := { m with pc := w16 (m.pc + 1), r4 := m.r0 }
theorem p60_0 : endsAt [0, 1] (Ly.run ctx3 3000 [] (sP m g 96 b1 b2)) = some (T [], .int .i64 0, 5, hPm (z60_0 m) (memL g)) := by kernel_rfl
theorem r60_0 : endsAt [0, 1, 2] (Ly.run ctx3 3000 [(4, true)] (sR m g 96)) = some (T [inw m.pc && true], .int .i64 0, 3, hRm (z60_0 m) (memL g)) := by kernel_rfl
theorem o60 (hm : m.Ok) (hg : ∀ e, B8 (g e)) (hh : m.halt = false) (h0 : g (ix m.pc) = 96) : Both m g := by
  obtain ⟨r0, r1, r2, r3, r4, r5, r7, sp, pc⟩ := id hm
  exact joinA (m' := (z60_0 m)) hm hh h0 (p60_0 m g _ _) (r60_0 m g) hg
@[simp] def z61_0 (m : Mc) : Mc := { m with pc := w16 (m.pc + 1), r4 := m.r1 }
theorem p61_0 : endsAt [0, 1] (Ly.run ctx3 3000 [] (sP m g 97 b1 b2)) = some (T [], .int .i64 0, 5, hPm (z61_0 m) (memL g)) := by kernel_rfl
theorem r61_0 : endsAt [0, 1, 2] (Ly.run ctx3 3000 [(4, true)] (sR m g 97)) = some (T [inw m.pc && true], .int .i64 0, 3, hRm (z61_0 m) (memL g)) := by kernel_rfl
theorem o61 (hm : m.Ok) (hg : ∀ e, B8 (g e)) (hh : m.halt = false) (h0 : g (ix m.pc) = 97) : Both m g := by
  obtain ⟨r0, r1, r2, r3, r4, r5, r7, sp, pc⟩ := id hm
  exact joinA (m' := (z61_0 m)) hm hh h0 (p61_0 m g _ _) (r61_0 m g) hg
@[simp] def z62_0 (m : Mc) : Mc := { m with pc := w16 (m.pc + 1), r4 := m.r2 }
theorem p62_0 : endsAt [0, 1] (Ly.run ctx3 3000 [] (sP m g 98 b1 b2)) = some (T [], .int .i64 0, 5, hPm (z62_0 m) (memL g)) := by kernel_rfl
theorem r62_0 : endsAt [0, 1, 2] (Ly.run ctx3 3000 [(4, true)] (sR m g 98)) = some (T [inw m.pc && true], .int .i64 0, 3, hRm (z62_0 m) (memL g)) := by kernel_rfl
theorem o62 (hm : m.Ok) (hg : ∀ e, B8 (g e)) (hh : m.halt = false) (h0 : g (ix m.pc) = 98) : Both m g := by
  obtain ⟨r0, r1, r2, r3, r4, r5, r7, sp, pc⟩ := id hm
  exact joinA (m' := (z62_0 m)) hm hh h0 (p62_0 m g _ _) (r62_0 m g) hg
@[simp] def z63_0 (m : Mc) : Mc := { m with pc := w16 (m.pc + 1), r4 := m.r3 }
theorem p63_0 : endsAt [0, 1] (Ly.run ctx3 3000 [] (sP m g 99 b1 b2)) = some (T [], .int .i64 0, 5, hPm (z63_0 m) (memL g)) := by kernel_rfl
theorem r63_0 : endsAt [0, 1, 2] (Ly.run ctx3 3000 [(4, true)] (sR m g 99)) = some (T [inw m.pc && true], .int .i64 0, 3, hRm (z63_0 m) (memL g)) := by kernel_rfl
theorem o63 (hm : m.Ok) (hg : ∀ e, B8 (g e)) (hh : m.halt = false) (h0 : g (ix m.pc) = 99) : Both m g := by
  obtain ⟨r0, r1, r2, r3, r4, r5, r7, sp, pc⟩ := id hm
  exact joinA (m' := (z63_0 m)) hm hh h0 (p63_0 m g _ _) (r63_0 m g) hg
theorem p64_0 : endsAt [0, 1] (Ly.run ctx3 3000 [] (sP m g 100 b1 b2)) = some (T [], .int .i64 0, 5, hPm { m with pc := w16 (m.pc + 1) } (memL g)) := by kernel_rfl
theorem r64_0 : endsAt [0, 1, 2] (Ly.run ctx3 3000 [(4, true)] (sR m g 100)) = some (T [inw m.pc && true], .int .i64 0, 3, hRm { m with pc := w16 (m.pc + 1) } (memL g)) := by kernel_rfl
theorem o64 (hm : m.Ok) (hg : ∀ e, B8 (g e)) (hh : m.halt = false) (h0 : g (ix m.pc) = 100) : Both m g := by
  obtain ⟨r0, r1, r2, r3, r4, r5, r7, sp, pc⟩ := id hm
  exact joinA (m' := { m with pc := w16 (m.pc + 1) }) hm hh h0 (p64_0 m g _ _) (r64_0 m g) hg
@[simp] def z65_0 (m : Mc) : Mc := { m with pc := w16 (m.pc + 1), r4 := m.r5 }
theorem p65_0 : endsAt [0, 1] (Ly.run ctx3 3000 [] (sP m g 101 b1 b2)) = some (T [], .int .i64 0, 5, hPm (z65_0 m) (memL g)) := by kernel_rfl
theorem r65_0 : endsAt [0, 1, 2] (Ly.run ctx3 3000 [(4, true)] (sR m g 101)) = some (T [inw m.pc && true], .int .i64 0, 3, hRm (z65_0 m) (memL g)) := by kernel_rfl
theorem o65 (hm : m.Ok) (hg : ∀ e, B8 (g e)) (hh : m.halt = false) (h0 : g (ix m.pc) = 101) : Both m g := by
  obtain ⟨r0, r1, r2, r3, r4, r5, r7, sp, pc⟩ := id hm
  exact joinA (m' := (z65_0 m)) hm hh h0 (p65_0 m g _ _) (r65_0 m g) hg
@[simp] def z66_0 (m : Mc) (g : Nat → Int) : Mc := { m with pc := w16 (m.pc + 1), r4 := g (ix (or16 (w16 (w16 m.r4 * 256)) (w16 m.r5))) }
theorem p66_0 : endsAt [0, 1] (Ly.run ctx3 3000 [(28, true), (0, true)] (sP m g 102 b1 b2)) = some (T [(true && lt16 (or16 (w16 (w16 m.r4 * 256)) (w16 m.r5))), bl (ix (or16 (w16 (w16 m.r4 * 256)) (w16 m.r5)))], .int .i64 0, 5, hPm (z66_0 m g) (memL g)) := by kernel_rfl
theorem r66_0 : endsAt [0, 1, 2] (Ly.run ctx3 3000 [(4, true), (11, true), (0, true), (0, true)] (sR m g 102)) = some (T [inw m.pc && true, inb m.r4 && inb m.r5, rg (256 * m.r4 + m.r5), bl (ix (256 * m.r4 + m.r5))], .int .i64 0, 3, hRm { m with pc := w16 (m.pc + 1), r4 := g (ix (256 * m.r4 + m.r5)) } (memL g)) := by kernel_rfl
theorem o66 (hm : m.Ok) (hg : ∀ e, B8 (g e)) (hh : m.halt = false) (h0 : g (ix m.pc) = 102) : Both m g := by
  obtain ⟨r0, r1, r2, r3, r4, r5, r7, sp, pc⟩ := id hm
  exact joinA (m' := (z66_0 m g)) hm hh h0 (p66_0 m g _ _) (r66_0 m g) hg
@[simp] def z67_0 (m : Mc) : Mc := { m with pc := w16 (m.pc + 1), r4 := m.r7 }
theorem p67_0 : endsAt [0, 1] (Ly.run ctx3 3000 [] (sP m g 103 b1 b2)) = some (T [], .int .i64 0, 5, hPm (z67_0 m) (memL g)) := by kernel_rfl
theorem r67_0 : endsAt [0, 1, 2] (Ly.run ctx3 3000 [(4, true)] (sR m g 103)) = some (T [inw m.pc && true], .int .i64 0, 3, hRm (z67_0 m) (memL g)) := by kernel_rfl
theorem o67 (hm : m.Ok) (hg : ∀ e, B8 (g e)) (hh : m.halt = false) (h0 : g (ix m.pc) = 103) : Both m g := by
  obtain ⟨r0, r1, r2, r3, r4, r5, r7, sp, pc⟩ := id hm
  exact joinA (m' := (z67_0 m)) hm hh h0 (p67_0 m g _ _) (r67_0 m g) hg
@[simp] def z68_0 (m : Mc) : Mc := { m with pc := w16 (m.pc + 1), r5 := m.r0 }
theorem p68_0 : endsAt [0, 1] (Ly.run ctx3 3000 [] (sP m g 104 b1 b2)) = some (T [], .int .i64 0, 5, hPm (z68_0 m) (memL g)) := by kernel_rfl
theorem r68_0 : endsAt [0, 1, 2] (Ly.run ctx3 3000 [(4, true)] (sR m g 104)) = some (T [inw m.pc && true], .int .i64 0, 3, hRm (z68_0 m) (memL g)) := by kernel_rfl
theorem o68 (hm : m.Ok) (hg : ∀ e, B8 (g e)) (hh : m.halt = false) (h0 : g (ix m.pc) = 104) : Both m g := by
  obtain ⟨r0, r1, r2, r3, r4, r5, r7, sp, pc⟩ := id hm
  exact joinA (m' := (z68_0 m)) hm hh h0 (p68_0 m g _ _) (r68_0 m g) hg
@[simp] def z69_0 (m : Mc) : Mc := { m with pc := w16 (m.pc + 1), r5 := m.r1 }
theorem p69_0 : endsAt [0, 1] (Ly.run ctx3 3000 [] (sP m g 105 b1 b2)) = some (T [], .int .i64 0, 5, hPm (z69_0 m) (memL g)) := by kernel_rfl
theorem r69_0 : endsAt [0, 1, 2] (Ly.run ctx3 3000 [(4, true)] (sR m g 105)) = some (T [inw m.pc && true], .int .i64 0, 3, hRm (z69_0 m) (memL g)) := by kernel_rfl
theorem o69 (hm : m.Ok) (hg : ∀ e, B8 (g e)) (hh : m.halt = false) (h0 : g (ix m.pc) = 105) : Both m g := by
  obtain ⟨r0, r1, r2, r3, r4, r5, r7, sp, pc⟩ := id hm
  exact joinA (m' := (z69_0 m)) hm hh h0 (p69_0 m g _ _) (r69_0 m g) hg
@[simp] def z6a_0 (m : Mc) : Mc := { m with pc := w16 (m.pc + 1), r5 := m.r2 }
theorem p6a_0 : endsAt [0, 1] (Ly.run ctx3 3000 [] (sP m g 106 b1 b2)) = some (T [], .int .i64 0, 5, hPm (z6a_0 m) (memL g)) := by kernel_rfl
theorem r6a_0 : endsAt [0, 1, 2] (Ly.run ctx3 3000 [(4, true)] (sR m g 106)) = some (T [inw m.pc && true], .int .i64 0, 3, hRm (z6a_0 m) (memL g)) := by kernel_rfl
theorem o6a (hm : m.Ok) (hg : ∀ e, B8 (g e)) (hh : m.halt = false) (h0 : g (ix m.pc) = 106) : Both m g := by
  obtain ⟨r0, r1, r2, r3, r4, r5, r7, sp, pc⟩ := id hm
  exact joinA (m' := (z6a_0 m)) hm hh h0 (p6a_0 m g _ _) (r6a_0 m g) hg
@[simp] def z6b_0 (m : Mc) : Mc := { m with pc := w16 (m.pc + 1), r5 := m.r3 }
theorem p6b_0 : endsAt [0, 1] (Ly.run ctx3 3000 [] (sP m g 107 b1 b2)) = some (T [], .int .i64 0, 5, hPm (z6b_0 m) (memL g)) := by kernel_rfl
theorem r6b_0 : endsAt [0, 1, 2] (Ly.run ctx3 3000 [(4, true)] (sR m g 107)) = some (T [inw m.pc && true], .int .i64 0, 3, hRm (z6b_0 m) (memL g)) := by kernel_rfl
theorem o6b (hm : m.Ok) (hg : ∀ e, B8 (g e)) (hh : m.halt = false) (h0 : g (ix m.pc) = 107) : Both m g := by
  obtain ⟨r0, r1, r2, r3, r4, r5, r7, sp, pc⟩ := id hm
  exact joinA (m' := (z6b_0 m)) hm hh h0 (p6b_0 m g _ _) (r6b_0 m g) hg
@[simp] def z6c_0 (m : Mc) : Mc := { m with pc := w16 (m.pc + 1), r5 := m.r4 }
theorem p6c_0 : endsAt [0, 1] (Ly.run ctx3 3000 [] (sP m g 108 b1 b2)) = some (T [], .int .i64 0, 5, hPm (z6c_0 m) (memL g)) := by kernel_rfl
theorem r6c_0 : endsAt [0, 1, 2] (Ly.run ctx3 3000 [(4, true)] (sR m g 108)) = some (T [inw m.pc && true], .int .i64 0, 3, hRm (z6c_0 m) (memL g)) := by kernel_rfl
theorem o6c (hm : m.Ok) (hg : ∀ e, B8 (g e)) (hh : m.halt = false) (h0 : g (ix m.pc) = 108) : Both m g := by
  obtain ⟨r0, r1, r2, r3, r4, r5, r7, sp, pc⟩ := id hm
  exact joinA (m' := (z6c_0 m)) hm hh h0 (p6c_0 m g _ _) (r6c_0 m g) hg
theorem p6d_0 : endsAt [0, 1] (Ly.run ctx3 3000 [] (sP m g 109 b1 b2)) = some (T [], .int .i64 0, 5, hPm { m with pc := w16 (m.pc + 1) } (memL g)) := by kernel_rfl
theorem r6d_0 : endsAt [0, 1, 2] (Ly.run ctx3 3000 [(4, true)] (sR m g 109)) = some (T [inw m.pc && true], .int .i64 0, 3, hRm { m with pc := w16 (m.pc + 1) } (memL g)) := by kernel_rfl
theorem o6d (hm : m.Ok) (hg : ∀ e, B8 (g e)) (hh : m.halt = false) (h0 : g (ix m.pc) = 109) : Both m g := by
  obtain ⟨r0, r1, r2, r3, r4, r5, r7, sp, pc⟩ := id hm
  exact joinA (m' := { m with pc := w16 (m.pc + 1) }) hm hh h0 (p6d_0 m g _ _) (r6d_0 m g) hg
@[simp] def z6e_0 (m : Mc) (g : Nat → Int) : Mc := { m with pc := w16 (m.pc + 1), r5 := g (ix (or16 (w16 (w16 m.r4 * 256)) (w16 m.r5))) }
theorem p6e_0 : endsAt [0, 1] (Ly.run ctx3 3000 [(28, true), (0, true)] (sP m g 110 b1 b2)) = some (T [(true && lt16 (or16 (w16 (w16 m.r4 * 256)) (w16 m.r5))), bl (ix (or16 (w16 (w16 m.r4 * 256)) (w16 m.r5)))], .int .i64 0, 5, hPm (z6e_0 m g) (memL g)) := by kernel_rfl
theorem r6e_0 : endsAt [0, 1, 2] (Ly.run ctx3 3000 [(4, true), (11, true), (0, true), (0, true)] (sR m g 110)) = some (T [inw m.pc && true, inb m.r4 && inb m.r5, rg (256 * m.r4 + m.r5), bl (ix (256 * m.r4 + m.r5))], .int .i64 0, 3, hRm { m with pc := w16 (m.pc + 1), r5 := g (ix (256 * m.r4 + m.r5)) } (memL g)) := by kernel_rfl
theorem o6e (hm : m.Ok) (hg : ∀ e, B8 (g e)) (hh : m.halt = false) (h0 : g (ix m.pc) = 110) : Both m g := by
  obtain ⟨r0, r1, r2, r3, r4, r5, r7, sp, pc⟩ := id hm
  exact joinA (m' := (z6e_0 m g)) hm hh h0 (p6e_0 m g _ _) (r6e_0 m g) hg
@[simp] def z6f_0 (m : Mc) : Mc := { m with pc := w16 (m.pc + 1), r5 := m.r7 }
theorem p6f_0 : endsAt [0, 1] (Ly.run ctx3 3000 [] (sP m g 111 b1 b2)) = some (T [], .int .i64 0, 5, hPm (z6f_0 m) (memL g)) := by kernel_rfl
theorem r6f_0 : endsAt [0, 1, 2] (Ly.run ctx3 3000 [(4, true)] (sR m g 111)) = some (T [inw m.pc && true], .int .i64 0, 3, hRm (z6f_0 m) (memL g)) := by kernel_rfl
theorem o6f (hm : m.Ok) (hg : ∀ e, B8 (g e)) (hh : m.halt = false) (h0 : g (ix m.pc) = 111) : Both m g := by
  obtain ⟨r0, r1, r2, r3, r4, r5, r7, sp, pc⟩ := id hm
  exact joinA (m' := (z6f_0 m)) hm hh h0 (p6f_0 m g _ _) (r6f_0 m g) hg
theorem blk6 (m : Mc) (g : Nat → Int) (hm : m.Ok) (hg : ∀ e, B8 (g e)) (hh : m.halt = false) (h1 : 96 ≤ g (ix m.pc)) (h2 : g (ix m.pc) < 112) : Both m g := by
  have h : g (ix m.pc) = 96 ∨ g (ix m.pc) = 97 ∨ g (ix m.pc) = 98 ∨ g (ix m.pc) = 99 ∨ g (ix m.pc) = 100 ∨ g (ix m.pc) = 101 ∨ g (ix m.pc) = 102 ∨ g (ix m.pc) = 103 ∨ g (ix m.pc) = 104 ∨ g (ix m.pc) = 105 ∨ g (ix m.pc) = 106 ∨ g (ix m.pc) = 107 ∨ g (ix m.pc) = 108 ∨ g (ix m.pc) = 109 ∨ g (ix m.pc) = 110 ∨ g (ix m.pc) = 111 := by omega
  rcases h with h | h | h | h | h | h | h | h | h | h | h | h | h | h | h | h
  · exact o60 m g hm hg hh h
  · exact o61 m g hm hg hh h
  · exact o62 m g hm hg hh h
  · exact o63 m g hm hg hh h
  · exact o64 m g hm hg hh h
  · exact o65 m g hm hg hh h
  · exact o66 m g hm hg hh h
  · exact o67 m g hm hg hh h
  · exact o68 m g hm hg hh h
  · exact o69 m g hm hg hh h
  · exact o6a m g hm hg hh h
  · exact o6b m g hm hg hh h
  · exact o6c m g hm hg hh h
  · exact o6d m g hm hg hh h
  · exact o6e m g hm hg hh h
  · exact o6f m g hm hg hh h
end Go.Proofs.Ytpggoincnebfnaa
namespace Go.Proofs.Ytpggoincnebfnaa
open Go Go.Ly Go.RowKit
variable (m : Mc) (g : Nat → Int) (b1 b2 : Int)
theorem p70_0 : endsAt [0, 1] (Ly.run ctx3 3000 [(26, true), (2, true)] (sP m g 112 b1 b2)) = some (T [(true && lt16 (or16 (w16 (w16 m.r4 * 256)) (w16 m.r5))), bl (ix (or16 (w16 (w16 m.r4 * 256)) (w16 m.r5)))], .int .i64 0, 5, hPm { m with pc := w16 (m.pc + 1) } (M1 g (ix (or16 (w16 (w16 m.r4 * 256)) (w16 m.r5))) (m.r0))) := by kernel_rfl
theorem r70_0 : endsAt [0, 1, 2] (Ly.run ctx3 3000 [(4, true), (13, true), (0, true), (0, true)] (sR m g 112)) = some (T [inw m.pc && true, inb m.r4 && inb m.r5, rg (256 * m.r4 + m.r5), bl (ix (256 * m.r4 + m.r5))], .int .i64 0, 3, hRm { m with pc := w16 (m.pc + 1) } (M1 g (ix (256 * m.r4 + m.r5)) (m.r0))) := by kernel_rfl
theorem o70 (hm : m.Ok) (hg : ∀ e, B8 (g e)) (hh : m.halt = false) (h0 : g (ix m.pc) = 112) : Both m g := by
  obtain ⟨r0, r1, r2, r3, r4, r5, r7, sp, pc⟩ := id hm
  exact join (m' := { m with pc := w16 (m.pc + 1) }) (g' := (upd g (ix (or16 (w16 (w16 m.r4 * 256)) (w16 m.r5))) (m.r0))) hm hh h0 (p70_0 m g _ _) (r70_0 m g) (by simp [*]) (by simp [*]) (by decide) (by decide) (eP (m1s rfl rfl)) (eR rfl (m1s (by simp [*]) (by simp [*]))) (by constructor <;> simp [*]) (upd_b8 hg (by simp [*]))
theorem p71_0 : endsAt [0, 1] (Ly.run ctx3 3000 [(26, true), (2, true)] (sP m g 113 b1 b2)) = some (T [(true && lt16 (or16 (w16 (w16 m.r4 * 256)) (w16 m.r5))), bl (ix (or16 (w16 (w16 m.r4 * 256)) (w16 m.r5)))], .int .i64 0, 5, hPm { m with pc := w16 (m.pc + 1) } (M1 g (ix (or16 (w16 (w16 m.r4 * 256)) (w16 m.r5))) (m.r1))) := by kernel_rfl
theorem r71_0 : endsAt [0, 1, 2] (Ly.run ctx3 3000 [(4, true), (13, true), (0, true), (0, true)] (sR m g 113)) = some (T [inw m.pc && true, inb m.r4 && inb m.r5, rg (256 * m.r4 + m.r5), bl (ix (256 * m.r4 + m.r5))], .int .i64 0, 3, hRm { m with pc := w16 (m.pc + 1) } (M1 g (ix (256 * m.r4 + m.r5)) (m.r1))) := by kernel_rfl
theorem o71 (hm : m.Ok) (hg : ∀ e, B8 (g e)) (hh : m.halt = false) (h0 : g (ix m.pc) = 113) : Both m g := by
  obtain ⟨r0, r1, r2, r3, r4, r5, r7, sp, pc⟩ := id hm
  exact join (m' := { m with pc := w16 (m.pc + 1) }) (g' := (upd g (ix (or16 (w16 (w16 m.r4 * 256)) (w16 m.r5))) (m.r1))) hm hh h0 (p71_0 m g _ _) (r71_0 m g) (by simp [*]) (by simp [*]) (by decide) (by decide) (eP (m1s rfl rfl)) (eR rfl (m1s (by simp [*]) (by simp [*]))) (by constructor <;> simp [*]) (upd_b8 hg (by simp [*]))
theorem p72_0 : endsAt [0, 1] (Ly.run ctx3 3000 [(26, true), (2, true)] (sP m g 114 b1 b2)) = some (T [(true && lt16 (or16 (w16 (w16 m.r4 * 256)) (w16 m.r5))), bl (ix (or16 (w16 (w16 m.r4 * 256)) (w16 m.r5)))], .int .i64 0, 5, hPm { m with pc := w16 (m.pc + 1) } (M1 g (ix (or16 (w16 (w16 m.r4 * 256)) (w16 m.r5))) (m.r2))) := by kernel_rfl
theorem r72_0 : endsAt [0, 1, 2] (Ly.run ctx3 3000 [(4, true), (13, true), (0, true), (0, true)] (sR m g 114)) = some (T [inw m.pc && true, inb m.r4 && inb m.r5, rg (256 * m.r4 + m.r5), bl (ix (256 * m.r4 + m.r5))], .int .i64 0, 3, hRm { m with pc := w16 (m.pc + 1) } (M1 g (ix (256 * m.r4 + m.r5)) (m.r2))) := by kernel_rfl
theorem o72 (hm : m.Ok) (hg : ∀ e, B8 (g e)) (hh : m.halt = false) (h0 : g (ix m.pc) = 114) : Both m g := by
  obtain ⟨r0, r1, r2, r3, r4, r5, r7, sp, pc⟩ := id hm
  exact join (m' := { m with pc := w16 (m.pc + 1) }) (g' := (upd g (ix (or16 (w16 (w16 m.r4 * 256)) (w16 m.r5))) (m.r2))) hm hh h0 (p72_0 m g _ _) (r72_0 m g) (by simp [*]) (by simp [*]) (by decide) (by decide) (eP (m1s rfl rfl)) (eR rfl (m1s (by simp [*]) (by simp [*]))) (by constructor <;> simp [*]) (upd_b8 hg (by simp [*]))
theorem p73_0 : endsAt [0, 1] (Ly.run ctx3 3000 [(26, true), (2, true)] (sP m g 115 b1 b2)) = some (T [(true && lt16 (or16 (w16 (w16 m.r4 * 256)) (w16 m.r5))), bl (ix (or16 (w16 (w16 m.r4 * 256)) (w16 m.r5)))], .int .i64 0, 5, hPm { m with pc := w16 (m.pc + 1) } (M1 g (ix (or16 (w16 (w16 m.r4 * 256)) (w16 m.r5))) (m.r3))) := by kernel_rfl
theorem r73_0 : endsAt [0, 1, 2] (Ly.run ctx3 3000 [(4, true), (13, true), (0, true), (0, true)] (sR m g 115)) = some (T [inw m.pc && true, inb m.r4 && inb m.r5, rg (256 * m.r4 + m.r5), bl (ix (256 * m.r4 + m.r5))], .int .i64 0, 3, hRm { m with pc := w16 (m.pc + 1) } (M1 g (ix (256 * m.r4 + m.r5)) (m.r3))) := by kernel_rfl
theorem o73 (hm : m.Ok) (hg : ∀ e, B8 (g e)) (hh : m.halt = false) (h0 : g (ix m.pc) = 115) : Both m g := by
  obtain ⟨r0, r1, r2, r3, r4, r5, r7, sp, pc⟩ := id hm
  exact join (m' := { m with pc := w16 (m.pc + 1) }) (g' := (upd g (ix (or16 (w16 (w16 m.r4 * 256)) (w16 m.r5))) (m.r3))) hm hh h0 (p73_0 m g _ _) (r73_0 m g) (by simp [*]) (by simp [*]) (by decide) (by decide) (eP (m1s rfl rfl)) (eR rfl (m1s (by simp [*]) (by simp [*]))) (by constructor <;> simp [*]) (upd_b8 hg (by simp [*]))
theorem p74_0 : endsAt [0, 1] (Ly.run ctx3 3000 [(26, true), (2, true)] (sP m g 116 b1 b2)) = some (T [(true && lt16 (or16 (w16 (w16 m.r4 * 256)) (w16 m.r5))), bl (ix (or16 (w16 (w16 m.r4 * 256)) (w16 m.r5)))], .int .i64 0, 5, hPm { m with pc := w16 (m.pc + 1) } (M1 g (ix (or16 (w16 (w16 m.r4 * 256)) (w16 m.r5))) (m.r4))) := by kernel_rfl
theorem r74_0 : endsAt [0, 1, 2] (Ly.run ctx3 3000 [(4, true), (13, true), (0, true), (0, true)] (sR m g 116)) = some (T [inw m.pc && true, inb m.r4 && inb m.r5, rg (256 * m.r4 + m.r5), bl (ix (256 * m.r4 + m.r5))], .int .i64 0, 3, hRm { m with pc := w16 (m.pc + 1) } (M1 g (ix (256 * m.r4 + m.r5)) (m.r4))) := by kernel_rfl
theorem o74 (hm : m.Ok) (hg : ∀ e, B8 (g e)) (hh : m.halt = false) (h0 : g (ix m.pc) = 116) : Both m g := by
  obtain ⟨r0, r1, r2, r3, r4, r5, r7, sp, pc⟩ := id hm
  exact join (m' := { m with pc := w16 (m.pc + 1) }) (g' := (upd g (ix (or16 (w16 (w16 m.r4 * 256)) (w16 m.r5))) (m.r4))) hm hh h0 (p74_0 m g _ _) (r74_0 m g) (by simp [*]) (by simp [*]) (by decide) (by decide) (eP (m1s rfl rfl)) (eR rfl (m1s (by simp [*]) (by simp [*]))) (by constructor <;> simp [*]) (upd_b8 hg (by simp [*]))
theorem p75_0 : endsAt [0, 1] (Ly.run ctx3 3000 [(26, true), (2, true)] (sP m g 117 b1 b2)) = some (T [(true && lt16 (or16 (w16 (w16 m.r4 * 256)) (w16 m.r5))), bl (ix (or16 (w16 (w16 m.r4 * 256)) (w16 m.r5)))], .int .i64 0, 5, hPm { m with pc := w16 (m.pc + 1) } (M1 g (ix (or16 (w16 (w16 m.r4 * 256)) (w16 m.r5))) (m.r5))) := by kernel_rfl
theorem r75_0 : endsAt [0, 1, 2] (Ly.run ctx3 3000 [(4, true), (13, true), (0, true), (0, true)] (sR m g 117)) = some (T [inw m.pc && true, inb m.r4 && inb m.r5, rg (256 * m.r4 + m.r5), bl (ix (256 * m.r4 + m.r5))], .int .i64 0, 3, hRm { m with pc := w16 (m.pc + 1) } (M1 g (ix (256 * m.r4 + m.r5)) (m.r5))) := by kernel_rfl
theorem o75 (hm : m.Ok) (hg : ∀ e, B8 (g e)) (hh : m.halt = false) (h0 : g (ix m.pc) = 117) : Both m g := by
  obtain ⟨r0, r1, r2, r3, r4, r5, r7, sp, pc⟩ := id hm
  exact join (m' := { m with pc := w16 (m.pc + 1) }) (g' := (upd g (ix (or16 (w16 (w16 m.r4 * 256)) (w16 m.r5))) (m.r5))) hm hh h0 (p75_0 m g _ _) (r75_0 m g) (by simp [*]) (by simp [*]) (by decide) (by decide) (eP (m1s rfl rfl)) (eR rfl (m1s (by simp [*]) (by simp [*]))) (by constructor <;> simp [*]) (upd_b8 hg (by simp [*]))
@[simp] def z76_0 (m : Mc) : Mc := { m with halt := true, pc := w16 (m.pc + 1) }
theorem p76_0 : endsAt [0, 1] (Ly.run ctx3 3000 [] (sP m g 118 b1 b2)) = some (T [], .int .i64 0, 5, hPm (z76_0 m) (memL g)) := by kernel_rfl
theorem r76_0 : endsAt [0, 1, 2] (Ly.run ctx3 3000 [(4, true)] (sR m g 118)) = some (T [inw m.pc && true], .int .i64 0, 3, hRm (z76_0 m) (memL g)) := by kernel_rfl
theorem o76 (hm : m.Ok) (hg : ∀ e, B8 (g e)) (hh : m.halt = false) (h0 : g (ix m.pc) = 118) : Both m g := by
  obtain ⟨r0, r1, r2, r3, r4, r5, r7, sp, pc⟩ := id hm
  exact joinA (m' := (z76_0 m)) hm hh h0 (p76_0 m g _ _) (r76_0 m g) hg
theorem p77_0 : endsAt [0, 1] (Ly.run ctx3 3000 [(26, true), (2, true)] (sP m g 119 b1 b2)) = some (T [(true && lt16 (or16 (w16 (w16 m.r4 * 256)) (w16 m.r5))), bl (ix (or16 (w16 (w16 m.r4 * 256)) (w16 m.r5)))], .int .i64 0, 5, hPm { m with pc := w16 (m.pc + 1) } (M1 g (ix (or16 (w16 (w16 m.r4 * 256)) (w16 m.r5))) (m.r7))) := by kernel_rfl
theorem r77_0 : endsAt [0, 1, 2] (Ly.run ctx3 3000 [(4, true), (13, true), (0, true), (0, true)] (sR m g 119)) = some (T [inw m.pc && true, inb m.r4 && inb m.r5, rg (256 * m.r4 + m.r5), bl (ix (256 * m.r4 + m.r5))], .int .i64 0, 3, hRm { m with pc := w16 (m.pc + 1) } (M1 g (ix (256 * m.r4 + m.r5)) (m.r7))) := by kernel_rfl
theorem o77 (hm : m.Ok) (hg : ∀ e, B8 (g e)) (hh : m.halt = false) (h0 : g (ix m.pc) = 119) : Both m g := by
  obtain ⟨r0, r1, r2, r3, r4, r5, r7, sp, pc⟩ := id hm
  exact join (m' := { m with pc := w16 (m.pc + 1) }) (g' := (upd g (ix (or16 (w16 (w16 m.r4 * 256)) (w16 m.r5))) (m.r7))) hm hh h0 (p77_0 m g _ _) (r77_0 m g) (by simp [*]) (by simp [*]) (by decide) (by decide) (eP (m1s rfl rfl)) (eR rfl (m1s (by simp [*]) (by simp [*]))) (by constructor <;> simp [*]) (upd_b8 hg (by simp [*]))
@[simp] def z78_0 (m : Mc) : Mc := { m with pc := w16 (m.pc + 1), r7 := m.r0 }
theorem p78_0 : endsAt [0, 1] (Ly.run ctx3 3000 [] (sP m g 120 b1 b2)) = some (T [], .int .i64 0, 5, hPm (z78_0 m) (memL g)) := by kernel_rfl
theorem r78_0 : endsAt [0, 1, 2] (Ly.run ctx3 3000 [(4, true)] (sR m g 120)) = some (T [inw m.pc && true], .int .i64 0, 3, hRm (z78_0 m) (memL g)) := by kernel_rfl
theorem o78 (hm : m.Ok) (hg : ∀ e, B8 (g e)) (hh : m.halt = false) (h0 : g (ix m.pc) = 120) : Both m g := by
  obtain ⟨r0, r1, r2, r3, r4, r5, r7, sp, pc⟩ := id hm
  exact joinA (m' := (z78_0 m)) hm hh h0 (p78_0 m g _ _) (r78_0 m g) hg
@[simp] def z79_0 (m : Mc) : Mc := { m with pc := w16 (m.pc + 1), r7 := m.r1 }
theorem p79_0 : endsAt [0, 1] (Ly.run ctx3 3000 [] (sP m g 121 b1 b2)) = some (T [], .int .i64 0, 5, hPm (z79_0 m) (memL g)) := by kernel_rfl
theorem r79_0 : endsAt [0, 1, 2] (Ly.run ctx3 3000 [(4, true)] (sR m g 121)) = some (T [inw m.pc && true], .int .i64 0, 3, hRm (z79_0 m) (memL g)) := by kernel_rfl
theorem o79 (hm : m.Ok) (hg : ∀ e, B8 (g e)) (hh : m.halt = false) (h0 : g (ix m.pc) = 121) : Both m g := by
  obtain ⟨r0, r1, r2, r3, r4, r5, r7, sp, pc⟩ := id hm
  exact joinA (m' := (z79_0 m)) hm hh h0 (p79_0 m g _ _) (r79_0 m g) hg
@[simp] def z7a_0 (m : Mc) : Mc := { m with pc := w16 (m.pc + 1), r7 := m.r2 }
theorem p7a_0 : endsAt [0, 1] (Ly.run ctx3 3000 [] (sP m g 122 b1 b2)) = some (T [], .int .i64 0, 5, hPm (z7a_0 m) (memL g)) := by kernel_rfl
theorem r7a_0 : endsAt [0, 1, 2] (Ly.run ctx3 3000 [(4, true)] (sR m g 122)) = some (T [inw m.pc && true], .int .i64 0, 3, hRm (z7a_0 m) (memL g)) := by kernel_rfl
theorem o7a (hm : m.Ok) (hg : ∀ e, B8 (g e)) (hh : m.halt = false) (h0 : g (ix m.pc) = 122) : Both m g := by
  obtain ⟨r0, r1, r2, r3, r4, r5, r7, sp, pc⟩ := id hm
  exact joinA (m' := (z7a_0 m)) hm hh h0 (p7a_0 m g _ _) (r7a_0 m g) hg
@[simp] def z7b_0 (m : Mc) : Mc := { m with pc := w16 (m.pc + 1), r7 := m.r3 }
theorem p7b_0 : endsAt [0, 1] (Ly.run ctx3 3000 [] (sP m g 123 b1 b2)) = some (T [], .int .i64 0, 5, hPm (z7b_0 m) (memL g)) := by kernel_rfl
theorem r7b_0 : endsAt [0, 1, 2] (Ly.run ctx3 3000 [(4, true)] (sR m g 123)) = some (T [inw m.pc && true], .int .i64 0, 3, hRm (z7b_0 m) (memL g)) := by kernel_rfl
theorem o7b (hm : m.Ok) (hg : ∀ e, B8 (g e)) (hh : m.halt = false) (h0 : g (ix m.pc) = 123) : Both m g := by
  obtain ⟨r0, r1, r2, r3, r4, r5, r7, sp, pc⟩ := id hm
  exact joinA (m' := (z7b_0 m)) hm hh h0 (p7b_0 m g _ _) (r7b_0 m g) hg
@[simp] def z7c_0 (m : Mc) : Mc := { m with pc := w16 (m.pc + 1), r7 := m.r4 }
theorem p7c_0 : endsAt [0, 1] (Ly.run ctx3 3000 [] (sP m g 124 b1 b2)) = some (T [], .int .i64 0, 5, hPm (z7c_0 m) (memL g)) := by kernel_rfl
theorem r7c_0 : endsAt [0, 1, 2] (Ly.run ctx3 3000 [(4, true)] (sR m g 124)) = some (T [inw m.pc && true], .int .i64 0, 3, hRm (z7c_0 m) (memL g)) := by kernel_rfl
theorem o7c (hm : m.Ok) (hg : ∀ e, B8 (g e)) (hh : m.halt = false) (h0 : g (ix m.pc) = 124) : Both m g := by
  obtain ⟨r0, r1, r2, r3, r4, r5, r7, sp, pc⟩ := id hm
  exact joinA (m' := (z7c_0 m)) hm hh h0 (p7c_0 m g _ _) (r7c_0 m g) hg
@[simp] def z7d_0 (m : Mc) : Mc := { m with pc := w16 (m.pc + 1), r7 := m.r5 }
theorem p7d_0 : endsAt [0, 1] (Ly.run ctx3 3000 [] (sP m g 125 b1 b2)) = some (T [], .int .i64 0, 5, hPm (z7d_0 m) (memL g)) := by kernel_rfl
theorem r7d_0 : endsAt [0, 1, 2] (Ly.run ctx3 3000 [(4, true)] (sR m g 125)) = some (T [inw m.pc && true], .int .i64 0, 3, hRm (z7d_0 m) (memL g)) := by kernel_rfl
theorem o7d (hm : m.Ok) (hg : ∀ e, B8 (g e)) (hh : m.halt = false) (h0 : g (ix m.pc) = 125) : Both m g := by
  obtain ⟨r0, r1, r2, r3, r4, r5, r7, sp, pc⟩ := id hm
  exact joinA (m' := (z7d_0 m)) hm hh h0 (p7d_0 m g _ _) (r7d_0 m g) hg
@[simp] def z7e_0 (m : Mc) (g : Nat → Int) : Mc := { m with pc := w16 (m.pc + 1), r7 := g (ix (or16 (w16 (w16 m.r4 * 256)) (w16 m.r5))) }
theorem p7e_0 : endsAt [0, 1] (Ly.run ctx3 3000 [(28, true), (0, true)] (sP m g 126 b1 b2)) = some (T [(true && lt16 (or16 (w16 (w16 m.r4 * 256)) (w16 m.r5))), bl (ix (or16 (w16 (w16 m.r4 * 256)) (w16 m.r5)))], .int .i64 0, 5, hPm (z7e_0 m g) (memL g)) := by kernel_rfl
theorem r7e_0 : endsAt [0, 1, 2] (Ly.run ctx3 3000 [(4, true), (11, true), (0, true), (0, true)] (sR m g 126)) = some (T [inw m.pc && true, inb m.r4 && inb m.r5, rg (256 * m.r4 + m.r5), bl (ix (256 * m.r4 + m.r5))], .int .i64 0, 3, hRm { m with pc := w16 (m.pc + 1), r7 := g (ix (256 * m.r4 + m.r5)) } (memL g)) := by kernel_rfl
theorem o7e (hm : m.Ok) (hg : ∀ e, B8 (g e)) (hh : m.halt = false) (h0 : g (ix m.pc) = 126) : Both m g := by
  obtain ⟨r0, r1, r2, r3, r4, r5, r7, sp, pc⟩ := id hm
  exact joinA (m' := (z7e_0 m g)) hm hh h0 (p7e_0 m g _ _) (r7e_0 m g) hg
theorem p7f_0 : endsAt [0, 1] (Ly.run ctx3 3000 [] (sP m g 127 b1 b2)) = some (T [], .int .i64 0, 5, hPm { m with pc := w16 (m.pc + 1) } (memL g)) := by kernel_rfl
theorem r7f_0 : endsAt [0, 1, 2] (Ly.run ctx3 3000 [(4, true)] (sR m g 127)) = some (T [inw m.pc && true], .int .i64 0, 3, hRm { m with pc := w16 (m.pc + 1) } (memL g)) := by kernel_rfl
theorem o7f (hm : m.Ok) (hg : ∀ e, B8 (g e)) (hh : m.halt = false) (h0 : g (ix m.pc) = 127) : Both m g := by
  obtain ⟨r0, r1, r2, r3, r4, r5, r7, sp, pc⟩ := id hm
  exact joinA (m' := { m with pc := w16 (m.pc + 1) }) hm hh h0 (p7f_0 m g _ _) (r7f_0 m g) hg
theorem blk7 (m : Mc) (g : Nat → Int) (hm : m.Ok) (hg : ∀ e, B8 (g e)) (hh : m.halt = false) (h1 : 112 ≤ g (ix m.pc)) (h2 : g (ix m.pc) < 128) : Both m g := by
  have h : g (ix m.pc) = 112 ∨ g (ix m.pc) = 113 ∨ g (ix m.pc) = 114 ∨ g (ix m.pc) = 115 ∨ g (ix m.pc) = 116 ∨ g (ix m.pc) = 117 ∨ g (ix m.pc) = 118 ∨ g (ix m.pc) = 119 ∨ g (ix m.pc) = 120 ∨ g (ix m.pc) = 121 ∨ g (ix m.pc) = 122 ∨ g (ix m.pc) = 123 ∨ g (ix m.pc) = 124 ∨ g (ix m.pc) = 125 ∨ g (ix m.pc) = 126 ∨ g (ix m.pc) = 127 := by omega
  rcases h with h | h | h | h | h | h | h | h | h | h | h | h | h | h | h | h
  · exact o70 m g hm hg hh h
  · exact o71 m g hm hg hh h
  · exact o72 m g hm hg hh h
  · exact o73 m g hm hg hh h
  · exact o74 m g hm hg hh h
  · exact o75 m g hm hg hh h
  · exact o76 m g hm hg hh h
  · exact o77 m g hm hg hh h
  · exact o78 m g hm hg hh h
  · exact o79 m g hm hg hh h
  · exact o7a m g hm hg hh h
  · exact o7b m g hm hg hh h
  · exact o7c m g hm hg hh h
  · exact o7d m g hm hg hh h
  · exact o7e m g hm hg hh h
  · exact o7f m g hm hg hh h
end Go.Proofs.Ytpggoincnebfnaa
end
