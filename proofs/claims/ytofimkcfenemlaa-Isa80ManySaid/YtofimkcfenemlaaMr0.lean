/- Isa80Many: a round of the loop, for each opcode that is 0 by 8. By program (genmn.py). -/
import Derived.Test.YtofimkcfenemlaaMn1
import Derived.KernelRfl
namespace Go.Proofs.Ytofimkcfenemlaa
open Go Go.Ly Go.RowKit
set_option linter.unusedVariables false
set_option linter.unusedSimpArgs false
theorem rd0 (fr n i : Int) : headAt [0, 3, 4] [] dM (Ly.run ctxF 43 [] (mkSt Try.f7 kM2 none 0 (vM2 fr n i 0) [])) = (true, [], true, (Try.f7, kM, none, 0), vM fr (IntKind.i64.wrap (n + 1)) (IntKind.i64.wrap (i + 1)), []) := by kernel_rfl
theorem rd8 (fr n i : Int) : headAt [0, 3, 4] [] dM (Ly.run ctxF 26 [] (mkSt Try.f7 kM2 none 0 (vM2 fr n i 8) [])) = (true, [], true, (Try.f7, kM, none, 0), vM fr n (IntKind.i64.wrap (i + 1)), []) := by kernel_rfl
theorem rd16 (fr n i : Int) : headAt [0, 3, 4] [] dM (Ly.run ctxF 26 [] (mkSt Try.f7 kM2 none 0 (vM2 fr n i 16) [])) = (true, [], true, (Try.f7, kM, none, 0), vM fr n (IntKind.i64.wrap (i + 1)), []) := by kernel_rfl
theorem rd24 (fr n i : Int) : headAt [0, 3, 4] [] dM (Ly.run ctxF 26 [] (mkSt Try.f7 kM2 none 0 (vM2 fr n i 24) [])) = (true, [], true, (Try.f7, kM, none, 0), vM fr n (IntKind.i64.wrap (i + 1)), []) := by kernel_rfl
theorem rd32 (fr n i : Int) : headAt [0, 3, 4] [] dM (Ly.run ctxF 26 [] (mkSt Try.f7 kM2 none 0 (vM2 fr n i 32) [])) = (true, [], true, (Try.f7, kM, none, 0), vM fr n (IntKind.i64.wrap (i + 1)), []) := by kernel_rfl
theorem rd40 (fr n i : Int) : headAt [0, 3, 4] [] dM (Ly.run ctxF 26 [] (mkSt Try.f7 kM2 none 0 (vM2 fr n i 40) [])) = (true, [], true, (Try.f7, kM, none, 0), vM fr n (IntKind.i64.wrap (i + 1)), []) := by kernel_rfl
theorem rd48 (fr n i : Int) : headAt [0, 3, 4] [] dM (Ly.run ctxF 26 [] (mkSt Try.f7 kM2 none 0 (vM2 fr n i 48) [])) = (true, [], true, (Try.f7, kM, none, 0), vM fr n (IntKind.i64.wrap (i + 1)), []) := by kernel_rfl
theorem rd56 (fr n i : Int) : headAt [0, 3, 4] [] dM (Ly.run ctxF 26 [] (mkSt Try.f7 kM2 none 0 (vM2 fr n i 56) [])) = (true, [], true, (Try.f7, kM, none, 0), vM fr n (IntKind.i64.wrap (i + 1)), []) := by kernel_rfl
theorem rd64 (fr n i : Int) : headAt [0, 3, 4] [] dM (Ly.run ctxF 43 [] (mkSt Try.f7 kM2 none 0 (vM2 fr n i 64) [])) = (true, [], true, (Try.f7, kM, none, 0), vM fr (IntKind.i64.wrap (n + 1)) (IntKind.i64.wrap (i + 1)), []) := by kernel_rfl
theorem rd72 (fr n i : Int) : headAt [0, 3, 4] [] dM (Ly.run ctxF 43 [] (mkSt Try.f7 kM2 none 0 (vM2 fr n i 72) [])) = (true, [], true, (Try.f7, kM, none, 0), vM fr (IntKind.i64.wrap (n + 1)) (IntKind.i64.wrap (i + 1)), []) := by kernel_rfl
theorem rd80 (fr n i : Int) : headAt [0, 3, 4] [] dM (Ly.run ctxF 43 [] (mkSt Try.f7 kM2 none 0 (vM2 fr n i 80) [])) = (true, [], true, (Try.f7, kM, none, 0), vM fr (IntKind.i64.wrap (n + 1)) (IntKind.i64.wrap (i + 1)), []) := by kernel_rfl
theorem rd88 (fr n i : Int) : headAt [0, 3, 4] [] dM (Ly.run ctxF 43 [] (mkSt Try.f7 kM2 none 0 (vM2 fr n i 88) [])) = (true, [], true, (Try.f7, kM, none, 0), vM fr (IntKind.i64.wrap (n + 1)) (IntKind.i64.wrap (i + 1)), []) := by kernel_rfl
theorem rd96 (fr n i : Int) : headAt [0, 3, 4] [] dM (Ly.run ctxF 43 [] (mkSt Try.f7 kM2 none 0 (vM2 fr n i 96) [])) = (true, [], true, (Try.f7, kM, none, 0), vM fr (IntKind.i64.wrap (n + 1)) (IntKind.i64.wrap (i + 1)), []) := by kernel_rfl
theorem rd104 (fr n i : Int) : headAt [0, 3, 4] [] dM (Ly.run ctxF 43 [] (mkSt Try.f7 kM2 none 0 (vM2 fr n i 104) [])) = (true, [], true, (Try.f7, kM, none, 0), vM fr (IntKind.i64.wrap (n + 1)) (IntKind.i64.wrap (i + 1)), []) := by kernel_rfl
theorem rd112 (fr n i : Int) : headAt [0, 3, 4] [] dM (Ly.run ctxF 43 [] (mkSt Try.f7 kM2 none 0 (vM2 fr n i 112) [])) = (true, [], true, (Try.f7, kM, none, 0), vM fr (IntKind.i64.wrap (n + 1)) (IntKind.i64.wrap (i + 1)), []) := by kernel_rfl
theorem rd120 (fr n i : Int) : headAt [0, 3, 4] [] dM (Ly.run ctxF 43 [] (mkSt Try.f7 kM2 none 0 (vM2 fr n i 120) [])) = (true, [], true, (Try.f7, kM, none, 0), vM fr (IntKind.i64.wrap (n + 1)) (IntKind.i64.wrap (i + 1)), []) := by kernel_rfl
theorem rd128 (fr n i : Int) : headAt [0, 3, 4] [] dM (Ly.run ctxF 43 [] (mkSt Try.f7 kM2 none 0 (vM2 fr n i 128) [])) = (true, [], true, (Try.f7, kM, none, 0), vM fr (IntKind.i64.wrap (n + 1)) (IntKind.i64.wrap (i + 1)), []) := by kernel_rfl
theorem rd136 (fr n i : Int) : headAt [0, 3, 4] [] dM (Ly.run ctxF 43 [] (mkSt Try.f7 kM2 none 0 (vM2 fr n i 136) [])) = (true, [], true, (Try.f7, kM, none, 0), vM fr (IntKind.i64.wrap (n + 1)) (IntKind.i64.wrap (i + 1)), []) := by kernel_rfl
theorem rd144 (fr n i : Int) : headAt [0, 3, 4] [] dM (Ly.run ctxF 43 [] (mkSt Try.f7 kM2 none 0 (vM2 fr n i 144) [])) = (true, [], true, (Try.f7, kM, none, 0), vM fr (IntKind.i64.wrap (n + 1)) (IntKind.i64.wrap (i + 1)), []) := by kernel_rfl
theorem rd152 (fr n i : Int) : headAt [0, 3, 4] [] dM (Ly.run ctxF 43 [] (mkSt Try.f7 kM2 none 0 (vM2 fr n i 152) [])) = (true, [], true, (Try.f7, kM, none, 0), vM fr (IntKind.i64.wrap (n + 1)) (IntKind.i64.wrap (i + 1)), []) := by kernel_rfl
theorem rd160 (fr n i : Int) : headAt [0, 3, 4] [] dM (Ly.run ctxF 43 [] (mkSt Try.f7 kM2 none 0 (vM2 fr n i 160) [])) = (true, [], true, (Try.f7, kM, none, 0), vM fr (IntKind.i64.wrap (n + 1)) (IntKind.i64.wrap (i + 1)), []) := by kernel_rfl
theorem rd168 (fr n i : Int) : headAt [0, 3, 4] [] dM (Ly.run ctxF 43 [] (mkSt Try.f7 kM2 none 0 (vM2 fr n i 168) [])) = (true, [], true, (Try.f7, kM, none, 0), vM fr (IntKind.i64.wrap (n + 1)) (IntKind.i64.wrap (i + 1)), []) := by kernel_rfl
theorem rd176 (fr n i : Int) : headAt [0, 3, 4] [] dM (Ly.run ctxF 43 [] (mkSt Try.f7 kM2 none 0 (vM2 fr n i 176) [])) = (true, [], true, (Try.f7, kM, none, 0), vM fr (IntKind.i64.wrap (n + 1)) (IntKind.i64.wrap (i + 1)), []) := by kernel_rfl
theorem rd184 (fr n i : Int) : headAt [0, 3, 4] [] dM (Ly.run ctxF 43 [] (mkSt Try.f7 kM2 none 0 (vM2 fr n i 184) [])) = (true, [], true, (Try.f7, kM, none, 0), vM fr (IntKind.i64.wrap (n + 1)) (IntKind.i64.wrap (i + 1)), []) := by kernel_rfl
theorem rd192 (fr n i : Int) : headAt [0, 3, 4] [] dM (Ly.run ctxF 43 [] (mkSt Try.f7 kM2 none 0 (vM2 fr n i 192) [])) = (true, [], true, (Try.f7, kM, none, 0), vM fr (IntKind.i64.wrap (n + 1)) (IntKind.i64.wrap (i + 1)), []) := by kernel_rfl
theorem rd200 (fr n i : Int) : headAt [0, 3, 4] [] dM (Ly.run ctxF 43 [] (mkSt Try.f7 kM2 none 0 (vM2 fr n i 200) [])) = (true, [], true, (Try.f7, kM, none, 0), vM fr (IntKind.i64.wrap (n + 1)) (IntKind.i64.wrap (i + 1)), []) := by kernel_rfl
theorem rd208 (fr n i : Int) : headAt [0, 3, 4] [] dM (Ly.run ctxF 43 [] (mkSt Try.f7 kM2 none 0 (vM2 fr n i 208) [])) = (true, [], true, (Try.f7, kM, none, 0), vM fr (IntKind.i64.wrap (n + 1)) (IntKind.i64.wrap (i + 1)), []) := by kernel_rfl
theorem rd216 (fr n i : Int) : headAt [0, 3, 4] [] dM (Ly.run ctxF 43 [] (mkSt Try.f7 kM2 none 0 (vM2 fr n i 216) [])) = (true, [], true, (Try.f7, kM, none, 0), vM fr (IntKind.i64.wrap (n + 1)) (IntKind.i64.wrap (i + 1)), []) := by kernel_rfl
theorem rd224 (fr n i : Int) : headAt [0, 3, 4] [] dM (Ly.run ctxF 43 [] (mkSt Try.f7 kM2 none 0 (vM2 fr n i 224) [])) = (true, [], true, (Try.f7, kM, none, 0), vM fr (IntKind.i64.wrap (n + 1)) (IntKind.i64.wrap (i + 1)), []) := by kernel_rfl
theorem rd232 (fr n i : Int) : headAt [0, 3, 4] [] dM (Ly.run ctxF 43 [] (mkSt Try.f7 kM2 none 0 (vM2 fr n i 232) [])) = (true, [], true, (Try.f7, kM, none, 0), vM fr (IntKind.i64.wrap (n + 1)) (IntKind.i64.wrap (i + 1)), []) := by kernel_rfl
theorem rd240 (fr n i : Int) : headAt [0, 3, 4] [] dM (Ly.run ctxF 43 [] (mkSt Try.f7 kM2 none 0 (vM2 fr n i 240) [])) = (true, [], true, (Try.f7, kM, none, 0), vM fr (IntKind.i64.wrap (n + 1)) (IntKind.i64.wrap (i + 1)), []) := by kernel_rfl
theorem rd248 (fr n i : Int) : headAt [0, 3, 4] [] dM (Ly.run ctxF 43 [] (mkSt Try.f7 kM2 none 0 (vM2 fr n i 248) [])) = (true, [], true, (Try.f7, kM, none, 0), vM fr (IntKind.i64.wrap (n + 1)) (IntKind.i64.wrap (i + 1)), []) := by kernel_rfl
end Go.Proofs.Ytofimkcfenemlaa
