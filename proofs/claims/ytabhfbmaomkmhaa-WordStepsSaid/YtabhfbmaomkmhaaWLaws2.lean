/- The walks of the laws that take flags: each returns true at every input, and writes nothing that was there. -/
import Derived.Test.YtabhfbmaomkmhaaWLaws
import Derived.Test.YtabhfbmaomkmhaaLxQ
namespace Go.Proofs.Ytabhfbmaomkmhaa
open Go Go.Lx Go.RowKit
theorem steps_walk2 (W : World) (v0 v1 : Value) (h0 : CkOk W (.int .u8) v0) (h1 : ∃ cs, v1 = .agg ⟨cs⟩ ∧ CksOk W [.bool, .bool, .bool, .bool, .bool] cs) :
    Calls Try.prog 8 #[v0, v1] W fun e W' => e = .returned (.bool true) ∧ Below W.heap.size W W' := by
  simp only [CkOk, CksOk] at h0 h1
  obtain ⟨a, rfl, wa⟩ := h0
  obtain ⟨_, rfl, _, _, rfl, ⟨s, rfl⟩, _, _, rfl, ⟨z, rfl⟩, _, _, rfl, ⟨x, rfl⟩, _, _, rfl, ⟨p, rfl⟩, _, _, rfl, ⟨c, rfl⟩, rfl⟩ := h1
  exact steps_walk a s z x p c wa W
theorem bytes_walk2 (W : World) (v0 v1 : Value) (h0 : ∃ cs, v0 = .agg ⟨cs⟩ ∧ CksOk W [.bool, .bool, .bool, .bool, .bool] cs) (h1 : CkOk W (.int .u8) v1) :
    Calls Try.prog 9 #[v0, v1] W fun e W' => e = .returned (.bool true) ∧ Below W.heap.size W W' := by
  simp only [CkOk, CksOk] at h0 h1
  obtain ⟨a, rfl, wa⟩ := h1
  obtain ⟨_, rfl, _, _, rfl, ⟨s, rfl⟩, _, _, rfl, ⟨z, rfl⟩, _, _, rfl, ⟨x, rfl⟩, _, _, rfl, ⟨p, rfl⟩, _, _, rfl, ⟨c, rfl⟩, rfl⟩ := h0
  exact bytes_walk s z x p c a wa W
end Go.Proofs.Ytabhfbmaomkmhaa
