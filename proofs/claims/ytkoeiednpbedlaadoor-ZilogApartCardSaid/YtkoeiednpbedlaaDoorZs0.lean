/- The document's Rename: its loop's rounds. -/
import Derived.Test.YtkoeiednpbedlaaDoorZr
import Derived.KernelRfl
namespace Go.Proofs.YtkoeiednpbedlaaDoor
open Go Go.Ly Go.RowKit
set_option linter.unusedVariables false
set_option linter.unusedSimpArgs false
noncomputable def rnD : St := Ly.start Tryd.f15 [] H0
noncomputable def rnK : List KI := ((Ly.run zctxR 14 [] (Ly.start Tryd.f15 [.string ⟨#[]⟩] (mkH []))).st rnD).top.k
noncomputable def rnV (s : ByteArray) (n : Int) : List Value := slots 35 [(0, .string s), (4, .int .i64 n)]
noncomputable def rnS (s : ByteArray) (n : Int) : St := mkSt Tryd.f15 rnK none 0 (rnV s n) []
theorem gR15 : zctxR.fn.get 15 = some Tryd.f15 := by kernel_rfl
theorem rn_0 (s : ByteArray) : headAt [0, 4] [] rnD (Ly.run zctxR 14 [] (Ly.start Tryd.f15 [.string s] (mkH []))) = (true, [], true, (Tryd.f15, rnK, none, 0), rnV s s.size, []) := by kernel_rfl
noncomputable def lastB (s : ByteArray) (n : Int) : Bool := ((s.data.toList.getD (IntKind.i64.wrap (n - 1)).toNat 0).toNat : Int) == 95
noncomputable def inS (s : ByteArray) (n : Int) : Bool := decide (0 ≤ IntKind.i64.wrap (n - 1)) && decide (IntKind.i64.wrap (n - 1) < (s.size : Int))
theorem rn_I (s : ByteArray) (n : Int) : headAt [0, 4] [] rnD (Ly.run zctxR 23 [(0, true), (3, true), (2, true)] (rnS s n)) =
    (true, [(decide (0 < n) == true, true), (inS s n, true), (lastB s n, true)], true, (Tryd.f15, rnK, none, 0), rnV s (IntKind.i64.wrap (n - 1)), []) := by kernel_rfl
end Go.Proofs.YtkoeiednpbedlaaDoor
