/- Isa80Many: the loop, and the law. By program (genmn.py). -/
import Derived.Test.YtofimkcfenemlaaMr0
import Derived.Test.YtofimkcfenemlaaMr1
import Derived.Test.YtofimkcfenemlaaMr2
import Derived.Test.YtofimkcfenemlaaMr3
import Derived.Test.YtofimkcfenemlaaMr4
import Derived.Test.YtofimkcfenemlaaMr5
import Derived.Test.YtofimkcfenemlaaMr6
import Derived.Test.YtofimkcfenemlaaMr7
import Derived.OpenShut
import Derived.KernelRfl
namespace Go.Proofs.Ytofimkcfenemlaa
open Go Go.Ly Go.RowKit
set_option linter.unusedVariables false
set_option linter.unusedSimpArgs false
noncomputable def docN (n : Nat) : Bool := !(Nat.beq n 8 || Nat.beq n 16 || Nat.beq n 24 || Nat.beq n 32 || Nat.beq n 40 || Nat.beq n 48 || Nat.beq n 56 || Nat.beq n 203 || Nat.beq n 217 || Nat.beq n 221 || Nat.beq n 237 || Nat.beq n 253)
noncomputable def nxN (b : Bool) (n : Int) : Int := bif b then IntKind.i64.wrap (n + 1) else n
theorem no_os : ∀ o ∈ ([] : List (Option LO)), ∀ x, o = some x → plainO x := fun o ho => by cases ho
theorem rd_all {Q : Value → Heap → Prop} (op : Nat) (h : op < 256) (fr n i : Int) (hs : MWp Try.prog (mkSt Try.f7 kM none 0 (vM fr (nxN (docN op) n) (IntKind.i64.wrap (i + 1))) []) Q) : MWp Try.prog (mkSt Try.f7 kM2 none 0 (vM2 fr n i op) []) Q := by
  rcases Nat.lt_or_ge op 128 with h0x256 | h0x256
  · rcases Nat.lt_or_ge op 64 with h0x128 | h0x128
    · rcases Nat.lt_or_ge op 32 with h0x64 | h0x64
      · rcases Nat.lt_or_ge op 16 with h0x32 | h0x32
        · rcases Nat.lt_or_ge op 8 with h0x16 | h0x16
          · rcases Nat.lt_or_ge op 4 with h0x8 | h0x8
            · rcases Nat.lt_or_ge op 2 with h0x4 | h0x4
              · rcases Nat.lt_or_ge op 1 with h0x2 | h0x2
                · obtain rfl : op = 0 := by omega
                  exact MWp.head ctxF_ok _ _ _ _ (rd0 fr n i) trivial no_os hs
                · obtain rfl : op = 1 := by omega
                  exact MWp.head ctxF_ok _ _ _ _ (rd1 fr n i) trivial no_os hs
              · rcases Nat.lt_or_ge op 3 with h2x4 | h2x4
                · obtain rfl : op = 2 := by omega
                  exact MWp.head ctxF_ok _ _ _ _ (rd2 fr n i) trivial no_os hs
                · obtain rfl : op = 3 := by omega
                  exact MWp.head ctxF_ok _ _ _ _ (rd3 fr n i) trivial no_os hs
            · rcases Nat.lt_or_ge op 6 with h4x8 | h4x8
              · rcases Nat.lt_or_ge op 5 with h4x6 | h4x6
                · obtain rfl : op = 4 := by omega
                  exact MWp.head ctxF_ok _ _ _ _ (rd4 fr n i) trivial no_os hs
                · obtain rfl : op = 5 := by omega
                  exact MWp.head ctxF_ok _ _ _ _ (rd5 fr n i) trivial no_os hs
              · rcases Nat.lt_or_ge op 7 with h6x8 | h6x8
                · obtain rfl : op = 6 := by omega
                  exact MWp.head ctxF_ok _ _ _ _ (rd6 fr n i) trivial no_os hs
                · obtain rfl : op = 7 := by omega
                  exact MWp.head ctxF_ok _ _ _ _ (rd7 fr n i) trivial no_os hs
          · rcases Nat.lt_or_ge op 12 with h8x16 | h8x16
            · rcases Nat.lt_or_ge op 10 with h8x12 | h8x12
              · rcases Nat.lt_or_ge op 9 with h8x10 | h8x10
                · obtain rfl : op = 8 := by omega
                  exact MWp.head ctxF_ok _ _ _ _ (rd8 fr n i) trivial no_os hs
                · obtain rfl : op = 9 := by omega
                  exact MWp.head ctxF_ok _ _ _ _ (rd9 fr n i) trivial no_os hs
              · rcases Nat.lt_or_ge op 11 with h10x12 | h10x12
                · obtain rfl : op = 10 := by omega
                  exact MWp.head ctxF_ok _ _ _ _ (rd10 fr n i) trivial no_os hs
                · obtain rfl : op = 11 := by omega
                  exact MWp.head ctxF_ok _ _ _ _ (rd11 fr n i) trivial no_os hs
            · rcases Nat.lt_or_ge op 14 with h12x16 | h12x16
              · rcases Nat.lt_or_ge op 13 with h12x14 | h12x14
                · obtain rfl : op = 12 := by omega
                  exact MWp.head ctxF_ok _ _ _ _ (rd12 fr n i) trivial no_os hs
                · obtain rfl : op = 13 := by omega
                  exact MWp.head ctxF_ok _ _ _ _ (rd13 fr n i) trivial no_os hs
              · rcases Nat.lt_or_ge op 15 with h14x16 | h14x16
                · obtain rfl : op = 14 := by omega
                  exact MWp.head ctxF_ok _ _ _ _ (rd14 fr n i) trivial no_os hs
                · obtain rfl : op = 15 := by omega
                  exact MWp.head ctxF_ok _ _ _ _ (rd15 fr n i) trivial no_os hs
        · rcases Nat.lt_or_ge op 24 with h16x32 | h16x32
          · rcases Nat.lt_or_ge op 20 with h16x24 | h16x24
            · rcases Nat.lt_or_ge op 18 with h16x20 | h16x20
              · rcases Nat.lt_or_ge op 17 with h16x18 | h16x18
                · obtain rfl : op = 16 := by omega
                  exact MWp.head ctxF_ok _ _ _ _ (rd16 fr n i) trivial no_os hs
                · obtain rfl : op = 17 := by omega
                  exact MWp.head ctxF_ok _ _ _ _ (rd17 fr n i) trivial no_os hs
              · rcases Nat.lt_or_ge op 19 with h18x20 | h18x20
                · obtain rfl : op = 18 := by omega
                  exact MWp.head ctxF_ok _ _ _ _ (rd18 fr n i) trivial no_os hs
                · obtain rfl : op = 19 := by omega
                  exact MWp.head ctxF_ok _ _ _ _ (rd19 fr n i) trivial no_os hs
            · rcases Nat.lt_or_ge op 22 with h20x24 | h20x24
              · rcases Nat.lt_or_ge op 21 with h20x22 | h20x22
                · obtain rfl : op = 20 := by omega
                  exact MWp.head ctxF_ok _ _ _ _ (rd20 fr n i) trivial no_os hs
                · obtain rfl : op = 21 := by omega
                  exact MWp.head ctxF_ok _ _ _ _ (rd21 fr n i) trivial no_os hs
              · rcases Nat.lt_or_ge op 23 with h22x24 | h22x24
                · obtain rfl : op = 22 := by omega
                  exact MWp.head ctxF_ok _ _ _ _ (rd22 fr n i) trivial no_os hs
                · obtain rfl : op = 23 := by omega
                  exact MWp.head ctxF_ok _ _ _ _ (rd23 fr n i) trivial no_os hs
          · rcases Nat.lt_or_ge op 28 with h24x32 | h24x32
            · rcases Nat.lt_or_ge op 26 with h24x28 | h24x28
              · rcases Nat.lt_or_ge op 25 with h24x26 | h24x26
                · obtain rfl : op = 24 := by omega
                  exact MWp.head ctxF_ok _ _ _ _ (rd24 fr n i) trivial no_os hs
                · obtain rfl : op = 25 := by omega
                  exact MWp.head ctxF_ok _ _ _ _ (rd25 fr n i) trivial no_os hs
              · rcases Nat.lt_or_ge op 27 with h26x28 | h26x28
                · obtain rfl : op = 26 := by omega
                  exact MWp.head ctxF_ok _ _ _ _ (rd26 fr n i) trivial no_os hs
                · obtain rfl : op = 27 := by omega
                  exact MWp.head ctxF_ok _ _ _ _ (rd27 fr n i) trivial no_os hs
            · rcases Nat.lt_or_ge op 30 with h28x32 | h28x32
              · rcases Nat.lt_or_ge op 29 with h28x30 | h28x30
                · obtain rfl : op = 28 := by omega
                  exact MWp.head ctxF_ok _ _ _ _ (rd28 fr n i) trivial no_os hs
                · obtain rfl : op = 29 := by omega
                  exact MWp.head ctxF_ok _ _ _ _ (rd29 fr n i) trivial no_os hs
              · rcases Nat.lt_or_ge op 31 with h30x32 | h30x32
                · obtain rfl : op = 30 := by omega
                  exact MWp.head ctxF_ok _ _ _ _ (rd30 fr n i) trivial no_os hs
                · obtain rfl : op = 31 := by omega
                  exact MWp.head ctxF_ok _ _ _ _ (rd31 fr n i) trivial no_os hs
      · rcases Nat.lt_or_ge op 48 with h32x64 | h32x64
        · rcases Nat.lt_or_ge op 40 with h32x48 | h32x48
          · rcases Nat.lt_or_ge op 36 with h32x40 | h32x40
            · rcases Nat.lt_or_ge op 34 with h32x36 | h32x36
              · rcases Nat.lt_or_ge op 33 with h32x34 | h32x34
                · obtain rfl : op = 32 := by omega
                  exact MWp.head ctxF_ok _ _ _ _ (rd32 fr n i) trivial no_os hs
                · obtain rfl : op = 33 := by omega
                  exact MWp.head ctxF_ok _ _ _ _ (rd33 fr n i) trivial no_os hs
              · rcases Nat.lt_or_ge op 35 with h34x36 | h34x36
                · obtain rfl : op = 34 := by omega
                  exact MWp.head ctxF_ok _ _ _ _ (rd34 fr n i) trivial no_os hs
                · obtain rfl : op = 35 := by omega
                  exact MWp.head ctxF_ok _ _ _ _ (rd35 fr n i) trivial no_os hs
            · rcases Nat.lt_or_ge op 38 with h36x40 | h36x40
              · rcases Nat.lt_or_ge op 37 with h36x38 | h36x38
                · obtain rfl : op = 36 := by omega
                  exact MWp.head ctxF_ok _ _ _ _ (rd36 fr n i) trivial no_os hs
                · obtain rfl : op = 37 := by omega
                  exact MWp.head ctxF_ok _ _ _ _ (rd37 fr n i) trivial no_os hs
              · rcases Nat.lt_or_ge op 39 with h38x40 | h38x40
                · obtain rfl : op = 38 := by omega
                  exact MWp.head ctxF_ok _ _ _ _ (rd38 fr n i) trivial no_os hs
                · obtain rfl : op = 39 := by omega
                  exact MWp.head ctxF_ok _ _ _ _ (rd39 fr n i) trivial no_os hs
          · rcases Nat.lt_or_ge op 44 with h40x48 | h40x48
            · rcases Nat.lt_or_ge op 42 with h40x44 | h40x44
              · rcases Nat.lt_or_ge op 41 with h40x42 | h40x42
                · obtain rfl : op = 40 := by omega
                  exact MWp.head ctxF_ok _ _ _ _ (rd40 fr n i) trivial no_os hs
                · obtain rfl : op = 41 := by omega
                  exact MWp.head ctxF_ok _ _ _ _ (rd41 fr n i) trivial no_os hs
              · rcases Nat.lt_or_ge op 43 with h42x44 | h42x44
                · obtain rfl : op = 42 := by omega
                  exact MWp.head ctxF_ok _ _ _ _ (rd42 fr n i) trivial no_os hs
                · obtain rfl : op = 43 := by omega
                  exact MWp.head ctxF_ok _ _ _ _ (rd43 fr n i) trivial no_os hs
            · rcases Nat.lt_or_ge op 46 with h44x48 | h44x48
              · rcases Nat.lt_or_ge op 45 with h44x46 | h44x46
                · obtain rfl : op = 44 := by omega
                  exact MWp.head ctxF_ok _ _ _ _ (rd44 fr n i) trivial no_os hs
                · obtain rfl : op = 45 := by omega
                  exact MWp.head ctxF_ok _ _ _ _ (rd45 fr n i) trivial no_os hs
              · rcases Nat.lt_or_ge op 47 with h46x48 | h46x48
                · obtain rfl : op = 46 := by omega
                  exact MWp.head ctxF_ok _ _ _ _ (rd46 fr n i) trivial no_os hs
                · obtain rfl : op = 47 := by omega
                  exact MWp.head ctxF_ok _ _ _ _ (rd47 fr n i) trivial no_os hs
        · rcases Nat.lt_or_ge op 56 with h48x64 | h48x64
          · rcases Nat.lt_or_ge op 52 with h48x56 | h48x56
            · rcases Nat.lt_or_ge op 50 with h48x52 | h48x52
              · rcases Nat.lt_or_ge op 49 with h48x50 | h48x50
                · obtain rfl : op = 48 := by omega
                  exact MWp.head ctxF_ok _ _ _ _ (rd48 fr n i) trivial no_os hs
                · obtain rfl : op = 49 := by omega
                  exact MWp.head ctxF_ok _ _ _ _ (rd49 fr n i) trivial no_os hs
              · rcases Nat.lt_or_ge op 51 with h50x52 | h50x52
                · obtain rfl : op = 50 := by omega
                  exact MWp.head ctxF_ok _ _ _ _ (rd50 fr n i) trivial no_os hs
                · obtain rfl : op = 51 := by omega
                  exact MWp.head ctxF_ok _ _ _ _ (rd51 fr n i) trivial no_os hs
            · rcases Nat.lt_or_ge op 54 with h52x56 | h52x56
              · rcases Nat.lt_or_ge op 53 with h52x54 | h52x54
                · obtain rfl : op = 52 := by omega
                  exact MWp.head ctxF_ok _ _ _ _ (rd52 fr n i) trivial no_os hs
                · obtain rfl : op = 53 := by omega
                  exact MWp.head ctxF_ok _ _ _ _ (rd53 fr n i) trivial no_os hs
              · rcases Nat.lt_or_ge op 55 with h54x56 | h54x56
                · obtain rfl : op = 54 := by omega
                  exact MWp.head ctxF_ok _ _ _ _ (rd54 fr n i) trivial no_os hs
                · obtain rfl : op = 55 := by omega
                  exact MWp.head ctxF_ok _ _ _ _ (rd55 fr n i) trivial no_os hs
          · rcases Nat.lt_or_ge op 60 with h56x64 | h56x64
            · rcases Nat.lt_or_ge op 58 with h56x60 | h56x60
              · rcases Nat.lt_or_ge op 57 with h56x58 | h56x58
                · obtain rfl : op = 56 := by omega
                  exact MWp.head ctxF_ok _ _ _ _ (rd56 fr n i) trivial no_os hs
                · obtain rfl : op = 57 := by omega
                  exact MWp.head ctxF_ok _ _ _ _ (rd57 fr n i) trivial no_os hs
              · rcases Nat.lt_or_ge op 59 with h58x60 | h58x60
                · obtain rfl : op = 58 := by omega
                  exact MWp.head ctxF_ok _ _ _ _ (rd58 fr n i) trivial no_os hs
                · obtain rfl : op = 59 := by omega
                  exact MWp.head ctxF_ok _ _ _ _ (rd59 fr n i) trivial no_os hs
            · rcases Nat.lt_or_ge op 62 with h60x64 | h60x64
              · rcases Nat.lt_or_ge op 61 with h60x62 | h60x62
                · obtain rfl : op = 60 := by omega
                  exact MWp.head ctxF_ok _ _ _ _ (rd60 fr n i) trivial no_os hs
                · obtain rfl : op = 61 := by omega
                  exact MWp.head ctxF_ok _ _ _ _ (rd61 fr n i) trivial no_os hs
              · rcases Nat.lt_or_ge op 63 with h62x64 | h62x64
                · obtain rfl : op = 62 := by omega
                  exact MWp.head ctxF_ok _ _ _ _ (rd62 fr n i) trivial no_os hs
                · obtain rfl : op = 63 := by omega
                  exact MWp.head ctxF_ok _ _ _ _ (rd63 fr n i) trivial no_os hs
    · rcases Nat.lt_or_ge op 96 with h64x128 | h64x128
      · rcases Nat.lt_or_ge op 80 with h64x96 | h64x96
        · rcases Nat.lt_or_ge op 72 with h64x80 | h64x80
          · rcases Nat.lt_or_ge op 68 with h64x72 | h64x72
            · rcases Nat.lt_or_ge op 66 with h64x68 | h64x68
              · rcases Nat.lt_or_ge op 65 with h64x66 | h64x66
                · obtain rfl : op = 64 := by omega
                  exact MWp.head ctxF_ok _ _ _ _ (rd64 fr n i) trivial no_os hs
                · obtain rfl : op = 65 := by omega
                  exact MWp.head ctxF_ok _ _ _ _ (rd65 fr n i) trivial no_os hs
              · rcases Nat.lt_or_ge op 67 with h66x68 | h66x68
                · obtain rfl : op = 66 := by omega
                  exact MWp.head ctxF_ok _ _ _ _ (rd66 fr n i) trivial no_os hs
                · obtain rfl : op = 67 := by omega
                  exact MWp.head ctxF_ok _ _ _ _ (rd67 fr n i) trivial no_os hs
            · rcases Nat.lt_or_ge op 70 with h68x72 | h68x72
              · rcases Nat.lt_or_ge op 69 with h68x70 | h68x70
                · obtain rfl : op = 68 := by omega
                  exact MWp.head ctxF_ok _ _ _ _ (rd68 fr n i) trivial no_os hs
                · obtain rfl : op = 69 := by omega
                  exact MWp.head ctxF_ok _ _ _ _ (rd69 fr n i) trivial no_os hs
              · rcases Nat.lt_or_ge op 71 with h70x72 | h70x72
                · obtain rfl : op = 70 := by omega
                  exact MWp.head ctxF_ok _ _ _ _ (rd70 fr n i) trivial no_os hs
                · obtain rfl : op = 71 := by omega
                  exact MWp.head ctxF_ok _ _ _ _ (rd71 fr n i) trivial no_os hs
          · rcases Nat.lt_or_ge op 76 with h72x80 | h72x80
            · rcases Nat.lt_or_ge op 74 with h72x76 | h72x76
              · rcases Nat.lt_or_ge op 73 with h72x74 | h72x74
                · obtain rfl : op = 72 := by omega
                  exact MWp.head ctxF_ok _ _ _ _ (rd72 fr n i) trivial no_os hs
                · obtain rfl : op = 73 := by omega
                  exact MWp.head ctxF_ok _ _ _ _ (rd73 fr n i) trivial no_os hs
              · rcases Nat.lt_or_ge op 75 with h74x76 | h74x76
                · obtain rfl : op = 74 := by omega
                  exact MWp.head ctxF_ok _ _ _ _ (rd74 fr n i) trivial no_os hs
                · obtain rfl : op = 75 := by omega
                  exact MWp.head ctxF_ok _ _ _ _ (rd75 fr n i) trivial no_os hs
            · rcases Nat.lt_or_ge op 78 with h76x80 | h76x80
              · rcases Nat.lt_or_ge op 77 with h76x78 | h76x78
                · obtain rfl : op = 76 := by omega
                  exact MWp.head ctxF_ok _ _ _ _ (rd76 fr n i) trivial no_os hs
                · obtain rfl : op = 77 := by omega
                  exact MWp.head ctxF_ok _ _ _ _ (rd77 fr n i) trivial no_os hs
              · rcases Nat.lt_or_ge op 79 with h78x80 | h78x80
                · obtain rfl : op = 78 := by omega
                  exact MWp.head ctxF_ok _ _ _ _ (rd78 fr n i) trivial no_os hs
                · obtain rfl : op = 79 := by omega
                  exact MWp.head ctxF_ok _ _ _ _ (rd79 fr n i) trivial no_os hs
        · rcases Nat.lt_or_ge op 88 with h80x96 | h80x96
          · rcases Nat.lt_or_ge op 84 with h80x88 | h80x88
            · rcases Nat.lt_or_ge op 82 with h80x84 | h80x84
              · rcases Nat.lt_or_ge op 81 with h80x82 | h80x82
                · obtain rfl : op = 80 := by omega
                  exact MWp.head ctxF_ok _ _ _ _ (rd80 fr n i) trivial no_os hs
                · obtain rfl : op = 81 := by omega
                  exact MWp.head ctxF_ok _ _ _ _ (rd81 fr n i) trivial no_os hs
              · rcases Nat.lt_or_ge op 83 with h82x84 | h82x84
                · obtain rfl : op = 82 := by omega
                  exact MWp.head ctxF_ok _ _ _ _ (rd82 fr n i) trivial no_os hs
                · obtain rfl : op = 83 := by omega
                  exact MWp.head ctxF_ok _ _ _ _ (rd83 fr n i) trivial no_os hs
            · rcases Nat.lt_or_ge op 86 with h84x88 | h84x88
              · rcases Nat.lt_or_ge op 85 with h84x86 | h84x86
                · obtain rfl : op = 84 := by omega
                  exact MWp.head ctxF_ok _ _ _ _ (rd84 fr n i) trivial no_os hs
                · obtain rfl : op = 85 := by omega
                  exact MWp.head ctxF_ok _ _ _ _ (rd85 fr n i) trivial no_os hs
              · rcases Nat.lt_or_ge op 87 with h86x88 | h86x88
                · obtain rfl : op = 86 := by omega
                  exact MWp.head ctxF_ok _ _ _ _ (rd86 fr n i) trivial no_os hs
                · obtain rfl : op = 87 := by omega
                  exact MWp.head ctxF_ok _ _ _ _ (rd87 fr n i) trivial no_os hs
          · rcases Nat.lt_or_ge op 92 with h88x96 | h88x96
            · rcases Nat.lt_or_ge op 90 with h88x92 | h88x92
              · rcases Nat.lt_or_ge op 89 with h88x90 | h88x90
                · obtain rfl : op = 88 := by omega
                  exact MWp.head ctxF_ok _ _ _ _ (rd88 fr n i) trivial no_os hs
                · obtain rfl : op = 89 := by omega
                  exact MWp.head ctxF_ok _ _ _ _ (rd89 fr n i) trivial no_os hs
              · rcases Nat.lt_or_ge op 91 with h90x92 | h90x92
                · obtain rfl : op = 90 := by omega
                  exact MWp.head ctxF_ok _ _ _ _ (rd90 fr n i) trivial no_os hs
                · obtain rfl : op = 91 := by omega
                  exact MWp.head ctxF_ok _ _ _ _ (rd91 fr n i) trivial no_os hs
            · rcases Nat.lt_or_ge op 94 with h92x96 | h92x96
              · rcases Nat.lt_or_ge op 93 with h92x94 | h92x94
                · obtain rfl : op = 92 := by omega
                  exact MWp.head ctxF_ok _ _ _ _ (rd92 fr n i) trivial no_os hs
                · obtain rfl : op = 93 := by omega
                  exact MWp.head ctxF_ok _ _ _ _ (rd93 fr n i) trivial no_os hs
              · rcases Nat.lt_or_ge op 95 with h94x96 | h94x96
                · obtain rfl : op = 94 := by omega
                  exact MWp.head ctxF_ok _ _ _ _ (rd94 fr n i) trivial no_os hs
                · obtain rfl : op = 95 := by omega
                  exact MWp.head ctxF_ok _ _ _ _ (rd95 fr n i) trivial no_os hs
      · rcases Nat.lt_or_ge op 112 with h96x128 | h96x128
        · rcases Nat.lt_or_ge op 104 with h96x112 | h96x112
          · rcases Nat.lt_or_ge op 100 with h96x104 | h96x104
            · rcases Nat.lt_or_ge op 98 with h96x100 | h96x100
              · rcases Nat.lt_or_ge op 97 with h96x98 | h96x98
                · obtain rfl : op = 96 := by omega
                  exact MWp.head ctxF_ok _ _ _ _ (rd96 fr n i) trivial no_os hs
                · obtain rfl : op = 97 := by omega
                  exact MWp.head ctxF_ok _ _ _ _ (rd97 fr n i) trivial no_os hs
              · rcases Nat.lt_or_ge op 99 with h98x100 | h98x100
                · obtain rfl : op = 98 := by omega
                  exact MWp.head ctxF_ok _ _ _ _ (rd98 fr n i) trivial no_os hs
                · obtain rfl : op = 99 := by omega
                  exact MWp.head ctxF_ok _ _ _ _ (rd99 fr n i) trivial no_os hs
            · rcases Nat.lt_or_ge op 102 with h100x104 | h100x104
              · rcases Nat.lt_or_ge op 101 with h100x102 | h100x102
                · obtain rfl : op = 100 := by omega
                  exact MWp.head ctxF_ok _ _ _ _ (rd100 fr n i) trivial no_os hs
                · obtain rfl : op = 101 := by omega
                  exact MWp.head ctxF_ok _ _ _ _ (rd101 fr n i) trivial no_os hs
              · rcases Nat.lt_or_ge op 103 with h102x104 | h102x104
                · obtain rfl : op = 102 := by omega
                  exact MWp.head ctxF_ok _ _ _ _ (rd102 fr n i) trivial no_os hs
                · obtain rfl : op = 103 := by omega
                  exact MWp.head ctxF_ok _ _ _ _ (rd103 fr n i) trivial no_os hs
          · rcases Nat.lt_or_ge op 108 with h104x112 | h104x112
            · rcases Nat.lt_or_ge op 106 with h104x108 | h104x108
              · rcases Nat.lt_or_ge op 105 with h104x106 | h104x106
                · obtain rfl : op = 104 := by omega
                  exact MWp.head ctxF_ok _ _ _ _ (rd104 fr n i) trivial no_os hs
                · obtain rfl : op = 105 := by omega
                  exact MWp.head ctxF_ok _ _ _ _ (rd105 fr n i) trivial no_os hs
              · rcases Nat.lt_or_ge op 107 with h106x108 | h106x108
                · obtain rfl : op = 106 := by omega
                  exact MWp.head ctxF_ok _ _ _ _ (rd106 fr n i) trivial no_os hs
                · obtain rfl : op = 107 := by omega
                  exact MWp.head ctxF_ok _ _ _ _ (rd107 fr n i) trivial no_os hs
            · rcases Nat.lt_or_ge op 110 with h108x112 | h108x112
              · rcases Nat.lt_or_ge op 109 with h108x110 | h108x110
                · obtain rfl : op = 108 := by omega
                  exact MWp.head ctxF_ok _ _ _ _ (rd108 fr n i) trivial no_os hs
                · obtain rfl : op = 109 := by omega
                  exact MWp.head ctxF_ok _ _ _ _ (rd109 fr n i) trivial no_os hs
              · rcases Nat.lt_or_ge op 111 with h110x112 | h110x112
                · obtain rfl : op = 110 := by omega
                  exact MWp.head ctxF_ok _ _ _ _ (rd110 fr n i) trivial no_os hs
                · obtain rfl : op = 111 := by omega
                  exact MWp.head ctxF_ok _ _ _ _ (rd111 fr n i) trivial no_os hs
        · rcases Nat.lt_or_ge op 120 with h112x128 | h112x128
          · rcases Nat.lt_or_ge op 116 with h112x120 | h112x120
            · rcases Nat.lt_or_ge op 114 with h112x116 | h112x116
              · rcases Nat.lt_or_ge op 113 with h112x114 | h112x114
                · obtain rfl : op = 112 := by omega
                  exact MWp.head ctxF_ok _ _ _ _ (rd112 fr n i) trivial no_os hs
                · obtain rfl : op = 113 := by omega
                  exact MWp.head ctxF_ok _ _ _ _ (rd113 fr n i) trivial no_os hs
              · rcases Nat.lt_or_ge op 115 with h114x116 | h114x116
                · obtain rfl : op = 114 := by omega
                  exact MWp.head ctxF_ok _ _ _ _ (rd114 fr n i) trivial no_os hs
                · obtain rfl : op = 115 := by omega
                  exact MWp.head ctxF_ok _ _ _ _ (rd115 fr n i) trivial no_os hs
            · rcases Nat.lt_or_ge op 118 with h116x120 | h116x120
              · rcases Nat.lt_or_ge op 117 with h116x118 | h116x118
                · obtain rfl : op = 116 := by omega
                  exact MWp.head ctxF_ok _ _ _ _ (rd116 fr n i) trivial no_os hs
                · obtain rfl : op = 117 := by omega
                  exact MWp.head ctxF_ok _ _ _ _ (rd117 fr n i) trivial no_os hs
              · rcases Nat.lt_or_ge op 119 with h118x120 | h118x120
                · obtain rfl : op = 118 := by omega
                  exact MWp.head ctxF_ok _ _ _ _ (rd118 fr n i) trivial no_os hs
                · obtain rfl : op = 119 := by omega
                  exact MWp.head ctxF_ok _ _ _ _ (rd119 fr n i) trivial no_os hs
          · rcases Nat.lt_or_ge op 124 with h120x128 | h120x128
            · rcases Nat.lt_or_ge op 122 with h120x124 | h120x124
              · rcases Nat.lt_or_ge op 121 with h120x122 | h120x122
                · obtain rfl : op = 120 := by omega
                  exact MWp.head ctxF_ok _ _ _ _ (rd120 fr n i) trivial no_os hs
                · obtain rfl : op = 121 := by omega
                  exact MWp.head ctxF_ok _ _ _ _ (rd121 fr n i) trivial no_os hs
              · rcases Nat.lt_or_ge op 123 with h122x124 | h122x124
                · obtain rfl : op = 122 := by omega
                  exact MWp.head ctxF_ok _ _ _ _ (rd122 fr n i) trivial no_os hs
                · obtain rfl : op = 123 := by omega
                  exact MWp.head ctxF_ok _ _ _ _ (rd123 fr n i) trivial no_os hs
            · rcases Nat.lt_or_ge op 126 with h124x128 | h124x128
              · rcases Nat.lt_or_ge op 125 with h124x126 | h124x126
                · obtain rfl : op = 124 := by omega
                  exact MWp.head ctxF_ok _ _ _ _ (rd124 fr n i) trivial no_os hs
                · obtain rfl : op = 125 := by omega
                  exact MWp.head ctxF_ok _ _ _ _ (rd125 fr n i) trivial no_os hs
              · rcases Nat.lt_or_ge op 127 with h126x128 | h126x128
                · obtain rfl : op = 126 := by omega
                  exact MWp.head ctxF_ok _ _ _ _ (rd126 fr n i) trivial no_os hs
                · obtain rfl : op = 127 := by omega
                  exact MWp.head ctxF_ok _ _ _ _ (rd127 fr n i) trivial no_os hs
  · rcases Nat.lt_or_ge op 192 with h128x256 | h128x256
    · rcases Nat.lt_or_ge op 160 with h128x192 | h128x192
      · rcases Nat.lt_or_ge op 144 with h128x160 | h128x160
        · rcases Nat.lt_or_ge op 136 with h128x144 | h128x144
          · rcases Nat.lt_or_ge op 132 with h128x136 | h128x136
            · rcases Nat.lt_or_ge op 130 with h128x132 | h128x132
              · rcases Nat.lt_or_ge op 129 with h128x130 | h128x130
                · obtain rfl : op = 128 := by omega
                  exact MWp.head ctxF_ok _ _ _ _ (rd128 fr n i) trivial no_os hs
                · obtain rfl : op = 129 := by omega
                  exact MWp.head ctxF_ok _ _ _ _ (rd129 fr n i) trivial no_os hs
              · rcases Nat.lt_or_ge op 131 with h130x132 | h130x132
                · obtain rfl : op = 130 := by omega
                  exact MWp.head ctxF_ok _ _ _ _ (rd130 fr n i) trivial no_os hs
                · obtain rfl : op = 131 := by omega
                  exact MWp.head ctxF_ok _ _ _ _ (rd131 fr n i) trivial no_os hs
            · rcases Nat.lt_or_ge op 134 with h132x136 | h132x136
              · rcases Nat.lt_or_ge op 133 with h132x134 | h132x134
                · obtain rfl : op = 132 := by omega
                  exact MWp.head ctxF_ok _ _ _ _ (rd132 fr n i) trivial no_os hs
                · obtain rfl : op = 133 := by omega
                  exact MWp.head ctxF_ok _ _ _ _ (rd133 fr n i) trivial no_os hs
              · rcases Nat.lt_or_ge op 135 with h134x136 | h134x136
                · obtain rfl : op = 134 := by omega
                  exact MWp.head ctxF_ok _ _ _ _ (rd134 fr n i) trivial no_os hs
                · obtain rfl : op = 135 := by omega
                  exact MWp.head ctxF_ok _ _ _ _ (rd135 fr n i) trivial no_os hs
          · rcases Nat.lt_or_ge op 140 with h136x144 | h136x144
            · rcases Nat.lt_or_ge op 138 with h136x140 | h136x140
              · rcases Nat.lt_or_ge op 137 with h136x138 | h136x138
                · obtain rfl : op = 136 := by omega
                  exact MWp.head ctxF_ok _ _ _ _ (rd136 fr n i) trivial no_os hs
                · obtain rfl : op = 137 := by omega
                  exact MWp.head ctxF_ok _ _ _ _ (rd137 fr n i) trivial no_os hs
              · rcases Nat.lt_or_ge op 139 with h138x140 | h138x140
                · obtain rfl : op = 138 := by omega
                  exact MWp.head ctxF_ok _ _ _ _ (rd138 fr n i) trivial no_os hs
                · obtain rfl : op = 139 := by omega
                  exact MWp.head ctxF_ok _ _ _ _ (rd139 fr n i) trivial no_os hs
            · rcases Nat.lt_or_ge op 142 with h140x144 | h140x144
              · rcases Nat.lt_or_ge op 141 with h140x142 | h140x142
                · obtain rfl : op = 140 := by omega
                  exact MWp.head ctxF_ok _ _ _ _ (rd140 fr n i) trivial no_os hs
                · obtain rfl : op = 141 := by omega
                  exact MWp.head ctxF_ok _ _ _ _ (rd141 fr n i) trivial no_os hs
              · rcases Nat.lt_or_ge op 143 with h142x144 | h142x144
                · obtain rfl : op = 142 := by omega
                  exact MWp.head ctxF_ok _ _ _ _ (rd142 fr n i) trivial no_os hs
                · obtain rfl : op = 143 := by omega
                  exact MWp.head ctxF_ok _ _ _ _ (rd143 fr n i) trivial no_os hs
        · rcases Nat.lt_or_ge op 152 with h144x160 | h144x160
          · rcases Nat.lt_or_ge op 148 with h144x152 | h144x152
            · rcases Nat.lt_or_ge op 146 with h144x148 | h144x148
              · rcases Nat.lt_or_ge op 145 with h144x146 | h144x146
                · obtain rfl : op = 144 := by omega
                  exact MWp.head ctxF_ok _ _ _ _ (rd144 fr n i) trivial no_os hs
                · obtain rfl : op = 145 := by omega
                  exact MWp.head ctxF_ok _ _ _ _ (rd145 fr n i) trivial no_os hs
              · rcases Nat.lt_or_ge op 147 with h146x148 | h146x148
                · obtain rfl : op = 146 := by omega
                  exact MWp.head ctxF_ok _ _ _ _ (rd146 fr n i) trivial no_os hs
                · obtain rfl : op = 147 := by omega
                  exact MWp.head ctxF_ok _ _ _ _ (rd147 fr n i) trivial no_os hs
            · rcases Nat.lt_or_ge op 150 with h148x152 | h148x152
              · rcases Nat.lt_or_ge op 149 with h148x150 | h148x150
                · obtain rfl : op = 148 := by omega
                  exact MWp.head ctxF_ok _ _ _ _ (rd148 fr n i) trivial no_os hs
                · obtain rfl : op = 149 := by omega
                  exact MWp.head ctxF_ok _ _ _ _ (rd149 fr n i) trivial no_os hs
              · rcases Nat.lt_or_ge op 151 with h150x152 | h150x152
                · obtain rfl : op = 150 := by omega
                  exact MWp.head ctxF_ok _ _ _ _ (rd150 fr n i) trivial no_os hs
                · obtain rfl : op = 151 := by omega
                  exact MWp.head ctxF_ok _ _ _ _ (rd151 fr n i) trivial no_os hs
          · rcases Nat.lt_or_ge op 156 with h152x160 | h152x160
            · rcases Nat.lt_or_ge op 154 with h152x156 | h152x156
              · rcases Nat.lt_or_ge op 153 with h152x154 | h152x154
                · obtain rfl : op = 152 := by omega
                  exact MWp.head ctxF_ok _ _ _ _ (rd152 fr n i) trivial no_os hs
                · obtain rfl : op = 153 := by omega
                  exact MWp.head ctxF_ok _ _ _ _ (rd153 fr n i) trivial no_os hs
              · rcases Nat.lt_or_ge op 155 with h154x156 | h154x156
                · obtain rfl : op = 154 := by omega
                  exact MWp.head ctxF_ok _ _ _ _ (rd154 fr n i) trivial no_os hs
                · obtain rfl : op = 155 := by omega
                  exact MWp.head ctxF_ok _ _ _ _ (rd155 fr n i) trivial no_os hs
            · rcases Nat.lt_or_ge op 158 with h156x160 | h156x160
              · rcases Nat.lt_or_ge op 157 with h156x158 | h156x158
                · obtain rfl : op = 156 := by omega
                  exact MWp.head ctxF_ok _ _ _ _ (rd156 fr n i) trivial no_os hs
                · obtain rfl : op = 157 := by omega
                  exact MWp.head ctxF_ok _ _ _ _ (rd157 fr n i) trivial no_os hs
              · rcases Nat.lt_or_ge op 159 with h158x160 | h158x160
                · obtain rfl : op = 158 := by omega
                  exact MWp.head ctxF_ok _ _ _ _ (rd158 fr n i) trivial no_os hs
                · obtain rfl : op = 159 := by omega
                  exact MWp.head ctxF_ok _ _ _ _ (rd159 fr n i) trivial no_os hs
      · rcases Nat.lt_or_ge op 176 with h160x192 | h160x192
        · rcases Nat.lt_or_ge op 168 with h160x176 | h160x176
          · rcases Nat.lt_or_ge op 164 with h160x168 | h160x168
            · rcases Nat.lt_or_ge op 162 with h160x164 | h160x164
              · rcases Nat.lt_or_ge op 161 with h160x162 | h160x162
                · obtain rfl : op = 160 := by omega
                  exact MWp.head ctxF_ok _ _ _ _ (rd160 fr n i) trivial no_os hs
                · obtain rfl : op = 161 := by omega
                  exact MWp.head ctxF_ok _ _ _ _ (rd161 fr n i) trivial no_os hs
              · rcases Nat.lt_or_ge op 163 with h162x164 | h162x164
                · obtain rfl : op = 162 := by omega
                  exact MWp.head ctxF_ok _ _ _ _ (rd162 fr n i) trivial no_os hs
                · obtain rfl : op = 163 := by omega
                  exact MWp.head ctxF_ok _ _ _ _ (rd163 fr n i) trivial no_os hs
            · rcases Nat.lt_or_ge op 166 with h164x168 | h164x168
              · rcases Nat.lt_or_ge op 165 with h164x166 | h164x166
                · obtain rfl : op = 164 := by omega
                  exact MWp.head ctxF_ok _ _ _ _ (rd164 fr n i) trivial no_os hs
                · obtain rfl : op = 165 := by omega
                  exact MWp.head ctxF_ok _ _ _ _ (rd165 fr n i) trivial no_os hs
              · rcases Nat.lt_or_ge op 167 with h166x168 | h166x168
                · obtain rfl : op = 166 := by omega
                  exact MWp.head ctxF_ok _ _ _ _ (rd166 fr n i) trivial no_os hs
                · obtain rfl : op = 167 := by omega
                  exact MWp.head ctxF_ok _ _ _ _ (rd167 fr n i) trivial no_os hs
          · rcases Nat.lt_or_ge op 172 with h168x176 | h168x176
            · rcases Nat.lt_or_ge op 170 with h168x172 | h168x172
              · rcases Nat.lt_or_ge op 169 with h168x170 | h168x170
                · obtain rfl : op = 168 := by omega
                  exact MWp.head ctxF_ok _ _ _ _ (rd168 fr n i) trivial no_os hs
                · obtain rfl : op = 169 := by omega
                  exact MWp.head ctxF_ok _ _ _ _ (rd169 fr n i) trivial no_os hs
              · rcases Nat.lt_or_ge op 171 with h170x172 | h170x172
                · obtain rfl : op = 170 := by omega
                  exact MWp.head ctxF_ok _ _ _ _ (rd170 fr n i) trivial no_os hs
                · obtain rfl : op = 171 := by omega
                  exact MWp.head ctxF_ok _ _ _ _ (rd171 fr n i) trivial no_os hs
            · rcases Nat.lt_or_ge op 174 with h172x176 | h172x176
              · rcases Nat.lt_or_ge op 173 with h172x174 | h172x174
                · obtain rfl : op = 172 := by omega
                  exact MWp.head ctxF_ok _ _ _ _ (rd172 fr n i) trivial no_os hs
                · obtain rfl : op = 173 := by omega
                  exact MWp.head ctxF_ok _ _ _ _ (rd173 fr n i) trivial no_os hs
              · rcases Nat.lt_or_ge op 175 with h174x176 | h174x176
                · obtain rfl : op = 174 := by omega
                  exact MWp.head ctxF_ok _ _ _ _ (rd174 fr n i) trivial no_os hs
                · obtain rfl : op = 175 := by omega
                  exact MWp.head ctxF_ok _ _ _ _ (rd175 fr n i) trivial no_os hs
        · rcases Nat.lt_or_ge op 184 with h176x192 | h176x192
          · rcases Nat.lt_or_ge op 180 with h176x184 | h176x184
            · rcases Nat.lt_or_ge op 178 with h176x180 | h176x180
              · rcases Nat.lt_or_ge op 177 with h176x178 | h176x178
                · obtain rfl : op = 176 := by omega
                  exact MWp.head ctxF_ok _ _ _ _ (rd176 fr n i) trivial no_os hs
                · obtain rfl : op = 177 := by omega
                  exact MWp.head ctxF_ok _ _ _ _ (rd177 fr n i) trivial no_os hs
              · rcases Nat.lt_or_ge op 179 with h178x180 | h178x180
                · obtain rfl : op = 178 := by omega
                  exact MWp.head ctxF_ok _ _ _ _ (rd178 fr n i) trivial no_os hs
                · obtain rfl : op = 179 := by omega
                  exact MWp.head ctxF_ok _ _ _ _ (rd179 fr n i) trivial no_os hs
            · rcases Nat.lt_or_ge op 182 with h180x184 | h180x184
              · rcases Nat.lt_or_ge op 181 with h180x182 | h180x182
                · obtain rfl : op = 180 := by omega
                  exact MWp.head ctxF_ok _ _ _ _ (rd180 fr n i) trivial no_os hs
                · obtain rfl : op = 181 := by omega
                  exact MWp.head ctxF_ok _ _ _ _ (rd181 fr n i) trivial no_os hs
              · rcases Nat.lt_or_ge op 183 with h182x184 | h182x184
                · obtain rfl : op = 182 := by omega
                  exact MWp.head ctxF_ok _ _ _ _ (rd182 fr n i) trivial no_os hs
                · obtain rfl : op = 183 := by omega
                  exact MWp.head ctxF_ok _ _ _ _ (rd183 fr n i) trivial no_os hs
          · rcases Nat.lt_or_ge op 188 with h184x192 | h184x192
            · rcases Nat.lt_or_ge op 186 with h184x188 | h184x188
              · rcases Nat.lt_or_ge op 185 with h184x186 | h184x186
                · obtain rfl : op = 184 := by omega
                  exact MWp.head ctxF_ok _ _ _ _ (rd184 fr n i) trivial no_os hs
                · obtain rfl : op = 185 := by omega
                  exact MWp.head ctxF_ok _ _ _ _ (rd185 fr n i) trivial no_os hs
              · rcases Nat.lt_or_ge op 187 with h186x188 | h186x188
                · obtain rfl : op = 186 := by omega
                  exact MWp.head ctxF_ok _ _ _ _ (rd186 fr n i) trivial no_os hs
                · obtain rfl : op = 187 := by omega
                  exact MWp.head ctxF_ok _ _ _ _ (rd187 fr n i) trivial no_os hs
            · rcases Nat.lt_or_ge op 190 with h188x192 | h188x192
              · rcases Nat.lt_or_ge op 189 with h188x190 | h188x190
                · obtain rfl : op = 188 := by omega
                  exact MWp.head ctxF_ok _ _ _ _ (rd188 fr n i) trivial no_os hs
                · obtain rfl : op = 189 := by omega
                  exact MWp.head ctxF_ok _ _ _ _ (rd189 fr n i) trivial no_os hs
              · rcases Nat.lt_or_ge op 191 with h190x192 | h190x192
                · obtain rfl : op = 190 := by omega
                  exact MWp.head ctxF_ok _ _ _ _ (rd190 fr n i) trivial no_os hs
                · obtain rfl : op = 191 := by omega
                  exact MWp.head ctxF_ok _ _ _ _ (rd191 fr n i) trivial no_os hs
    · rcases Nat.lt_or_ge op 224 with h192x256 | h192x256
      · rcases Nat.lt_or_ge op 208 with h192x224 | h192x224
        · rcases Nat.lt_or_ge op 200 with h192x208 | h192x208
          · rcases Nat.lt_or_ge op 196 with h192x200 | h192x200
            · rcases Nat.lt_or_ge op 194 with h192x196 | h192x196
              · rcases Nat.lt_or_ge op 193 with h192x194 | h192x194
                · obtain rfl : op = 192 := by omega
                  exact MWp.head ctxF_ok _ _ _ _ (rd192 fr n i) trivial no_os hs
                · obtain rfl : op = 193 := by omega
                  exact MWp.head ctxF_ok _ _ _ _ (rd193 fr n i) trivial no_os hs
              · rcases Nat.lt_or_ge op 195 with h194x196 | h194x196
                · obtain rfl : op = 194 := by omega
                  exact MWp.head ctxF_ok _ _ _ _ (rd194 fr n i) trivial no_os hs
                · obtain rfl : op = 195 := by omega
                  exact MWp.head ctxF_ok _ _ _ _ (rd195 fr n i) trivial no_os hs
            · rcases Nat.lt_or_ge op 198 with h196x200 | h196x200
              · rcases Nat.lt_or_ge op 197 with h196x198 | h196x198
                · obtain rfl : op = 196 := by omega
                  exact MWp.head ctxF_ok _ _ _ _ (rd196 fr n i) trivial no_os hs
                · obtain rfl : op = 197 := by omega
                  exact MWp.head ctxF_ok _ _ _ _ (rd197 fr n i) trivial no_os hs
              · rcases Nat.lt_or_ge op 199 with h198x200 | h198x200
                · obtain rfl : op = 198 := by omega
                  exact MWp.head ctxF_ok _ _ _ _ (rd198 fr n i) trivial no_os hs
                · obtain rfl : op = 199 := by omega
                  exact MWp.head ctxF_ok _ _ _ _ (rd199 fr n i) trivial no_os hs
          · rcases Nat.lt_or_ge op 204 with h200x208 | h200x208
            · rcases Nat.lt_or_ge op 202 with h200x204 | h200x204
              · rcases Nat.lt_or_ge op 201 with h200x202 | h200x202
                · obtain rfl : op = 200 := by omega
                  exact MWp.head ctxF_ok _ _ _ _ (rd200 fr n i) trivial no_os hs
                · obtain rfl : op = 201 := by omega
                  exact MWp.head ctxF_ok _ _ _ _ (rd201 fr n i) trivial no_os hs
              · rcases Nat.lt_or_ge op 203 with h202x204 | h202x204
                · obtain rfl : op = 202 := by omega
                  exact MWp.head ctxF_ok _ _ _ _ (rd202 fr n i) trivial no_os hs
                · obtain rfl : op = 203 := by omega
                  exact MWp.head ctxF_ok _ _ _ _ (rd203 fr n i) trivial no_os hs
            · rcases Nat.lt_or_ge op 206 with h204x208 | h204x208
              · rcases Nat.lt_or_ge op 205 with h204x206 | h204x206
                · obtain rfl : op = 204 := by omega
                  exact MWp.head ctxF_ok _ _ _ _ (rd204 fr n i) trivial no_os hs
                · obtain rfl : op = 205 := by omega
                  exact MWp.head ctxF_ok _ _ _ _ (rd205 fr n i) trivial no_os hs
              · rcases Nat.lt_or_ge op 207 with h206x208 | h206x208
                · obtain rfl : op = 206 := by omega
                  exact MWp.head ctxF_ok _ _ _ _ (rd206 fr n i) trivial no_os hs
                · obtain rfl : op = 207 := by omega
                  exact MWp.head ctxF_ok _ _ _ _ (rd207 fr n i) trivial no_os hs
        · rcases Nat.lt_or_ge op 216 with h208x224 | h208x224
          · rcases Nat.lt_or_ge op 212 with h208x216 | h208x216
            · rcases Nat.lt_or_ge op 210 with h208x212 | h208x212
              · rcases Nat.lt_or_ge op 209 with h208x210 | h208x210
                · obtain rfl : op = 208 := by omega
                  exact MWp.head ctxF_ok _ _ _ _ (rd208 fr n i) trivial no_os hs
                · obtain rfl : op = 209 := by omega
                  exact MWp.head ctxF_ok _ _ _ _ (rd209 fr n i) trivial no_os hs
              · rcases Nat.lt_or_ge op 211 with h210x212 | h210x212
                · obtain rfl : op = 210 := by omega
                  exact MWp.head ctxF_ok _ _ _ _ (rd210 fr n i) trivial no_os hs
                · obtain rfl : op = 211 := by omega
                  exact MWp.head ctxF_ok _ _ _ _ (rd211 fr n i) trivial no_os hs
            · rcases Nat.lt_or_ge op 214 with h212x216 | h212x216
              · rcases Nat.lt_or_ge op 213 with h212x214 | h212x214
                · obtain rfl : op = 212 := by omega
                  exact MWp.head ctxF_ok _ _ _ _ (rd212 fr n i) trivial no_os hs
                · obtain rfl : op = 213 := by omega
                  exact MWp.head ctxF_ok _ _ _ _ (rd213 fr n i) trivial no_os hs
              · rcases Nat.lt_or_ge op 215 with h214x216 | h214x216
                · obtain rfl : op = 214 := by omega
                  exact MWp.head ctxF_ok _ _ _ _ (rd214 fr n i) trivial no_os hs
                · obtain rfl : op = 215 := by omega
                  exact MWp.head ctxF_ok _ _ _ _ (rd215 fr n i) trivial no_os hs
          · rcases Nat.lt_or_ge op 220 with h216x224 | h216x224
            · rcases Nat.lt_or_ge op 218 with h216x220 | h216x220
              · rcases Nat.lt_or_ge op 217 with h216x218 | h216x218
                · obtain rfl : op = 216 := by omega
                  exact MWp.head ctxF_ok _ _ _ _ (rd216 fr n i) trivial no_os hs
                · obtain rfl : op = 217 := by omega
                  exact MWp.head ctxF_ok _ _ _ _ (rd217 fr n i) trivial no_os hs
              · rcases Nat.lt_or_ge op 219 with h218x220 | h218x220
                · obtain rfl : op = 218 := by omega
                  exact MWp.head ctxF_ok _ _ _ _ (rd218 fr n i) trivial no_os hs
                · obtain rfl : op = 219 := by omega
                  exact MWp.head ctxF_ok _ _ _ _ (rd219 fr n i) trivial no_os hs
            · rcases Nat.lt_or_ge op 222 with h220x224 | h220x224
              · rcases Nat.lt_or_ge op 221 with h220x222 | h220x222
                · obtain rfl : op = 220 := by omega
                  exact MWp.head ctxF_ok _ _ _ _ (rd220 fr n i) trivial no_os hs
                · obtain rfl : op = 221 := by omega
                  exact MWp.head ctxF_ok _ _ _ _ (rd221 fr n i) trivial no_os hs
              · rcases Nat.lt_or_ge op 223 with h222x224 | h222x224
                · obtain rfl : op = 222 := by omega
                  exact MWp.head ctxF_ok _ _ _ _ (rd222 fr n i) trivial no_os hs
                · obtain rfl : op = 223 := by omega
                  exact MWp.head ctxF_ok _ _ _ _ (rd223 fr n i) trivial no_os hs
      · rcases Nat.lt_or_ge op 240 with h224x256 | h224x256
        · rcases Nat.lt_or_ge op 232 with h224x240 | h224x240
          · rcases Nat.lt_or_ge op 228 with h224x232 | h224x232
            · rcases Nat.lt_or_ge op 226 with h224x228 | h224x228
              · rcases Nat.lt_or_ge op 225 with h224x226 | h224x226
                · obtain rfl : op = 224 := by omega
                  exact MWp.head ctxF_ok _ _ _ _ (rd224 fr n i) trivial no_os hs
                · obtain rfl : op = 225 := by omega
                  exact MWp.head ctxF_ok _ _ _ _ (rd225 fr n i) trivial no_os hs
              · rcases Nat.lt_or_ge op 227 with h226x228 | h226x228
                · obtain rfl : op = 226 := by omega
                  exact MWp.head ctxF_ok _ _ _ _ (rd226 fr n i) trivial no_os hs
                · obtain rfl : op = 227 := by omega
                  exact MWp.head ctxF_ok _ _ _ _ (rd227 fr n i) trivial no_os hs
            · rcases Nat.lt_or_ge op 230 with h228x232 | h228x232
              · rcases Nat.lt_or_ge op 229 with h228x230 | h228x230
                · obtain rfl : op = 228 := by omega
                  exact MWp.head ctxF_ok _ _ _ _ (rd228 fr n i) trivial no_os hs
                · obtain rfl : op = 229 := by omega
                  exact MWp.head ctxF_ok _ _ _ _ (rd229 fr n i) trivial no_os hs
              · rcases Nat.lt_or_ge op 231 with h230x232 | h230x232
                · obtain rfl : op = 230 := by omega
                  exact MWp.head ctxF_ok _ _ _ _ (rd230 fr n i) trivial no_os hs
                · obtain rfl : op = 231 := by omega
                  exact MWp.head ctxF_ok _ _ _ _ (rd231 fr n i) trivial no_os hs
          · rcases Nat.lt_or_ge op 236 with h232x240 | h232x240
            · rcases Nat.lt_or_ge op 234 with h232x236 | h232x236
              · rcases Nat.lt_or_ge op 233 with h232x234 | h232x234
                · obtain rfl : op = 232 := by omega
                  exact MWp.head ctxF_ok _ _ _ _ (rd232 fr n i) trivial no_os hs
                · obtain rfl : op = 233 := by omega
                  exact MWp.head ctxF_ok _ _ _ _ (rd233 fr n i) trivial no_os hs
              · rcases Nat.lt_or_ge op 235 with h234x236 | h234x236
                · obtain rfl : op = 234 := by omega
                  exact MWp.head ctxF_ok _ _ _ _ (rd234 fr n i) trivial no_os hs
                · obtain rfl : op = 235 := by omega
                  exact MWp.head ctxF_ok _ _ _ _ (rd235 fr n i) trivial no_os hs
            · rcases Nat.lt_or_ge op 238 with h236x240 | h236x240
              · rcases Nat.lt_or_ge op 237 with h236x238 | h236x238
                · obtain rfl : op = 236 := by omega
                  exact MWp.head ctxF_ok _ _ _ _ (rd236 fr n i) trivial no_os hs
                · obtain rfl : op = 237 := by omega
                  exact MWp.head ctxF_ok _ _ _ _ (rd237 fr n i) trivial no_os hs
              · rcases Nat.lt_or_ge op 239 with h238x240 | h238x240
                · obtain rfl : op = 238 := by omega
                  exact MWp.head ctxF_ok _ _ _ _ (rd238 fr n i) trivial no_os hs
                · obtain rfl : op = 239 := by omega
                  exact MWp.head ctxF_ok _ _ _ _ (rd239 fr n i) trivial no_os hs
        · rcases Nat.lt_or_ge op 248 with h240x256 | h240x256
          · rcases Nat.lt_or_ge op 244 with h240x248 | h240x248
            · rcases Nat.lt_or_ge op 242 with h240x244 | h240x244
              · rcases Nat.lt_or_ge op 241 with h240x242 | h240x242
                · obtain rfl : op = 240 := by omega
                  exact MWp.head ctxF_ok _ _ _ _ (rd240 fr n i) trivial no_os hs
                · obtain rfl : op = 241 := by omega
                  exact MWp.head ctxF_ok _ _ _ _ (rd241 fr n i) trivial no_os hs
              · rcases Nat.lt_or_ge op 243 with h242x244 | h242x244
                · obtain rfl : op = 242 := by omega
                  exact MWp.head ctxF_ok _ _ _ _ (rd242 fr n i) trivial no_os hs
                · obtain rfl : op = 243 := by omega
                  exact MWp.head ctxF_ok _ _ _ _ (rd243 fr n i) trivial no_os hs
            · rcases Nat.lt_or_ge op 246 with h244x248 | h244x248
              · rcases Nat.lt_or_ge op 245 with h244x246 | h244x246
                · obtain rfl : op = 244 := by omega
                  exact MWp.head ctxF_ok _ _ _ _ (rd244 fr n i) trivial no_os hs
                · obtain rfl : op = 245 := by omega
                  exact MWp.head ctxF_ok _ _ _ _ (rd245 fr n i) trivial no_os hs
              · rcases Nat.lt_or_ge op 247 with h246x248 | h246x248
                · obtain rfl : op = 246 := by omega
                  exact MWp.head ctxF_ok _ _ _ _ (rd246 fr n i) trivial no_os hs
                · obtain rfl : op = 247 := by omega
                  exact MWp.head ctxF_ok _ _ _ _ (rd247 fr n i) trivial no_os hs
          · rcases Nat.lt_or_ge op 252 with h248x256 | h248x256
            · rcases Nat.lt_or_ge op 250 with h248x252 | h248x252
              · rcases Nat.lt_or_ge op 249 with h248x250 | h248x250
                · obtain rfl : op = 248 := by omega
                  exact MWp.head ctxF_ok _ _ _ _ (rd248 fr n i) trivial no_os hs
                · obtain rfl : op = 249 := by omega
                  exact MWp.head ctxF_ok _ _ _ _ (rd249 fr n i) trivial no_os hs
              · rcases Nat.lt_or_ge op 251 with h250x252 | h250x252
                · obtain rfl : op = 250 := by omega
                  exact MWp.head ctxF_ok _ _ _ _ (rd250 fr n i) trivial no_os hs
                · obtain rfl : op = 251 := by omega
                  exact MWp.head ctxF_ok _ _ _ _ (rd251 fr n i) trivial no_os hs
            · rcases Nat.lt_or_ge op 254 with h252x256 | h252x256
              · rcases Nat.lt_or_ge op 253 with h252x254 | h252x254
                · obtain rfl : op = 252 := by omega
                  exact MWp.head ctxF_ok _ _ _ _ (rd252 fr n i) trivial no_os hs
                · obtain rfl : op = 253 := by omega
                  exact MWp.head ctxF_ok _ _ _ _ (rd253 fr n i) trivial no_os hs
              · rcases Nat.lt_or_ge op 255 with h254x256 | h254x256
                · obtain rfl : op = 254 := by omega
                  exact MWp.head ctxF_ok _ _ _ _ (rd254 fr n i) trivial no_os hs
                · obtain rfl : op = 255 := by omega
                  exact MWp.head ctxF_ok _ _ _ _ (rd255 fr n i) trivial no_os hs
theorem hM0 (fr : Int) : headAt [0, 3, 4] [] dM (Ly.run ctxF 15 [] (Ly.start Try.f7 [.int .u8 fr] (mkH []))) = (true, [], true, (Try.f7, kM, none, 0), vM fr 0 0, []) := by kernel_rfl
theorem hM1 (fr n i : Int) : headAt [0, 3, 4, 5, 16] [] dM (Ly.run ctxFh 60 [(0, true)] (mkSt Try.f7 kM none 0 (vM fr n i) [])) = (true, [(decide (i < 256), true)], true, (Try.f7, kM2, none, 0), vM2 fr n i (IntKind.u8.wrap (IntKind.u8.wrap i + fr)), []) := by kernel_rfl
theorem hMe (fr n i : Int) : (Ly.run ctxF 300 [(0, false), (0, true)] (mkSt Try.f7 kM none 0 (vM fr n i) [])).out? = some ([(decide (i < 256), false), ((n == 244) == true, true)], .bool true) := by kernel_rfl
/-- how many opcodes of the first i are documented, from a byte on -/
noncomputable def cnt (fr : Nat) : Nat → Nat
  | 0 => 0
  | i + 1 => bif docN ((i + fr) % 256) then cnt fr i + 1 else cnt fr i
theorem cnt_le (fr : Nat) : ∀ i, cnt fr i ≤ i
  | 0 => Nat.le_refl 0
  | i + 1 => by
    have := cnt_le fr i
    show (bif docN ((i + fr) % 256) then cnt fr i + 1 else cnt fr i) ≤ i + 1
    cases docN ((i + fr) % 256) <;> simp <;> omega
theorem cnt_all : ((List.range 256).all fun fr => Nat.beq (cnt (0 + fr) 256) 244) = true := by decide +kernel
theorem loopM (fr : Nat) (hf : fr < 256) : ∀ (d i : Nat), i + d = 256 → MWp Try.prog (mkSt Try.f7 kM none 0 (vM fr (cnt fr i) i) []) (fun v _ => v = .bool true)
  | 0, i, hd => by
    obtain rfl : i = 256 := by omega
    have hc : cnt fr 256 = 244 := Nat.eq_of_beq_eq_true (range_all (p := fun fr => Nat.beq (cnt fr 256) 244) cnt_all fr (by omega) (by omega))
    rw [hc]
    exact MWp.out ctxF_ok 300 _ (hMe fr 244 256) (by simp [trusted]) (fun _ => rfl)
  | d + 1, i, hd => by
    refine MWp.head ctxFh_ok _ _ _ _ (hM1 fr (cnt fr i) i) ⟨decide_eq_true (by omega), trivial⟩ no_os ?_
    have e : IntKind.u8.wrap (IntKind.u8.wrap (i : Int) + fr) = (((i + fr) % 256 : Nat) : Int) := by rw [IntKind.wrap_u8, IntKind.wrap_u8]; omega
    rw [e]
    refine rd_all ((i + fr) % 256) (by omega) fr (cnt fr i) i ?_
    have e1 : IntKind.i64.wrap ((i : Int) + 1) = ((i + 1 : Nat) : Int) := by rw [IntKind.wrap_i64]; omega
    have e2 : nxN (docN ((i + fr) % 256)) (cnt fr i) = ((cnt fr (i + 1) : Nat) : Int) := by
      have := cnt_le fr i
      show nxN (docN ((i + fr) % 256)) (cnt fr i) = ((bif docN ((i + fr) % 256) then cnt fr i + 1 else cnt fr i : Nat) : Int)
      unfold nxN
      cases docN ((i + fr) % 256) with
      | false => rfl
      | true => simp only [cond_true]; rw [IntKind.wrap_i64]; omega
    rw [e1, e2]
    exact loopM fr hf d (i + 1) (by omega)
theorem g7 : ctxF.fn.get 7 = some Try.f7 := by kernel_rfl
theorem many_walk (W : World) (v0 : Value) (h0 : CkOk W (.int .u8) v0) : Calls Try.prog 7 #[v0] W fun e W' => e = .returned (.bool true) ∧ Below W.heap.size W W' := by
  simp only [CkOk] at h0
  obtain ⟨b, rfl, hb⟩ := h0
  have h2 := bounds_u8 hb
  obtain ⟨fr, rfl⟩ := Int.eq_ofNat_of_zero_le h2.1
  refine calls_plain (plainL_VR _ (by simp [plain, plainL])) (fun ρ v' h => plain_eq (by simp [plain]) h) ?_ W
  exact LCalls_of ctxF_ok g7 (by kernel_rfl) (MWp.head ctxF_ok _ _ _ _ (hM0 fr) trivial no_os (loopM fr (by omega) 256 0 rfl))
end Go.Proofs.Ytofimkcfenemlaa
