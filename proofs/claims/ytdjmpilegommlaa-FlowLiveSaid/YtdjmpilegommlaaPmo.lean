/- Part 15 of the texts that the law needs, laid together. By program (pack.py). -/
import Derived.Test.YtdjmpilegommlaaPmc
import Derived.Test.YtdjmpilegommlaaPmf
import Derived.Test.YtdjmpilegommlaaPmg
import Derived.Test.YtdjmpilegommlaaPmh
import Derived.Test.YtdjmpilegommlaaPmi
import Derived.Test.YtdjmpilegommlaaPmj
import Derived.Test.YtdjmpilegommlaaPmk
import Derived.Test.YtdjmpilegommlaaPml
import Derived.Test.YtdjmpilegommlaaPmm
import Derived.Test.YtdjmpilegommlaaPmn
import Derived.KernelRfl
import Derived.OpenShut
import Derived.Laws.BitsLemmas
set_option linter.unusedVariables false
set_option linter.unusedSimpArgs false
noncomputable section
namespace Go.Proofs.Ytdjmpilegommlaa
open Go Go.Ly Go.RowKit
theorem tab10_all (n : Nat) (h : n < 256) : tabI (Ly.run env.bare 60000 [] (Ly.start Try.f10 [.int .u8 ((n : Nat) : Int)] H0)).val? (usesT ((n : Nat) : Int)) = true := by
  rcases Nat.lt_or_ge n 8 with g0 | g0
  · exact range_all (p := fun n => tabI (Ly.run env.bare 60000 [] (Ly.start Try.f10 [.int .u8 ((n : Nat) : Int)] H0)).val? (usesT ((n : Nat) : Int))) tab10_0 n (by omega) (by omega)
  rcases Nat.lt_or_ge n 16 with g1 | g1
  · exact range_all (p := fun n => tabI (Ly.run env.bare 60000 [] (Ly.start Try.f10 [.int .u8 ((n : Nat) : Int)] H0)).val? (usesT ((n : Nat) : Int))) tab10_1 n (by omega) (by omega)
  rcases Nat.lt_or_ge n 24 with g2 | g2
  · exact range_all (p := fun n => tabI (Ly.run env.bare 60000 [] (Ly.start Try.f10 [.int .u8 ((n : Nat) : Int)] H0)).val? (usesT ((n : Nat) : Int))) tab10_2 n (by omega) (by omega)
  rcases Nat.lt_or_ge n 32 with g3 | g3
  · exact range_all (p := fun n => tabI (Ly.run env.bare 60000 [] (Ly.start Try.f10 [.int .u8 ((n : Nat) : Int)] H0)).val? (usesT ((n : Nat) : Int))) tab10_3 n (by omega) (by omega)
  rcases Nat.lt_or_ge n 40 with g4 | g4
  · exact range_all (p := fun n => tabI (Ly.run env.bare 60000 [] (Ly.start Try.f10 [.int .u8 ((n : Nat) : Int)] H0)).val? (usesT ((n : Nat) : Int))) tab10_4 n (by omega) (by omega)
  rcases Nat.lt_or_ge n 48 with g5 | g5
  · exact range_all (p := fun n => tabI (Ly.run env.bare 60000 [] (Ly.start Try.f10 [.int .u8 ((n : Nat) : Int)] H0)).val? (usesT ((n : Nat) : Int))) tab10_5 n (by omega) (by omega)
  rcases Nat.lt_or_ge n 56 with g6 | g6
  · exact range_all (p := fun n => tabI (Ly.run env.bare 60000 [] (Ly.start Try.f10 [.int .u8 ((n : Nat) : Int)] H0)).val? (usesT ((n : Nat) : Int))) tab10_6 n (by omega) (by omega)
  rcases Nat.lt_or_ge n 64 with g7 | g7
  · exact range_all (p := fun n => tabI (Ly.run env.bare 60000 [] (Ly.start Try.f10 [.int .u8 ((n : Nat) : Int)] H0)).val? (usesT ((n : Nat) : Int))) tab10_7 n (by omega) (by omega)
  rcases Nat.lt_or_ge n 72 with g8 | g8
  · exact range_all (p := fun n => tabI (Ly.run env.bare 60000 [] (Ly.start Try.f10 [.int .u8 ((n : Nat) : Int)] H0)).val? (usesT ((n : Nat) : Int))) tab10_8 n (by omega) (by omega)
  rcases Nat.lt_or_ge n 80 with g9 | g9
  · exact range_all (p := fun n => tabI (Ly.run env.bare 60000 [] (Ly.start Try.f10 [.int .u8 ((n : Nat) : Int)] H0)).val? (usesT ((n : Nat) : Int))) tab10_9 n (by omega) (by omega)
  rcases Nat.lt_or_ge n 88 with g10 | g10
  · exact range_all (p := fun n => tabI (Ly.run env.bare 60000 [] (Ly.start Try.f10 [.int .u8 ((n : Nat) : Int)] H0)).val? (usesT ((n : Nat) : Int))) tab10_10 n (by omega) (by omega)
  rcases Nat.lt_or_ge n 96 with g11 | g11
  · exact range_all (p := fun n => tabI (Ly.run env.bare 60000 [] (Ly.start Try.f10 [.int .u8 ((n : Nat) : Int)] H0)).val? (usesT ((n : Nat) : Int))) tab10_11 n (by omega) (by omega)
  rcases Nat.lt_or_ge n 104 with g12 | g12
  · exact range_all (p := fun n => tabI (Ly.run env.bare 60000 [] (Ly.start Try.f10 [.int .u8 ((n : Nat) : Int)] H0)).val? (usesT ((n : Nat) : Int))) tab10_12 n (by omega) (by omega)
  rcases Nat.lt_or_ge n 112 with g13 | g13
  · exact range_all (p := fun n => tabI (Ly.run env.bare 60000 [] (Ly.start Try.f10 [.int .u8 ((n : Nat) : Int)] H0)).val? (usesT ((n : Nat) : Int))) tab10_13 n (by omega) (by omega)
  rcases Nat.lt_or_ge n 120 with g14 | g14
  · exact range_all (p := fun n => tabI (Ly.run env.bare 60000 [] (Ly.start Try.f10 [.int .u8 ((n : Nat) : Int)] H0)).val? (usesT ((n : Nat) : Int))) tab10_14 n (by omega) (by omega)
  rcases Nat.lt_or_ge n 128 with g15 | g15
  · exact range_all (p := fun n => tabI (Ly.run env.bare 60000 [] (Ly.start Try.f10 [.int .u8 ((n : Nat) : Int)] H0)).val? (usesT ((n : Nat) : Int))) tab10_15 n (by omega) (by omega)
  rcases Nat.lt_or_ge n 136 with g16 | g16
  · exact range_all (p := fun n => tabI (Ly.run env.bare 60000 [] (Ly.start Try.f10 [.int .u8 ((n : Nat) : Int)] H0)).val? (usesT ((n : Nat) : Int))) tab10_16 n (by omega) (by omega)
  rcases Nat.lt_or_ge n 144 with g17 | g17
  · exact range_all (p := fun n => tabI (Ly.run env.bare 60000 [] (Ly.start Try.f10 [.int .u8 ((n : Nat) : Int)] H0)).val? (usesT ((n : Nat) : Int))) tab10_17 n (by omega) (by omega)
  rcases Nat.lt_or_ge n 152 with g18 | g18
  · exact range_all (p := fun n => tabI (Ly.run env.bare 60000 [] (Ly.start Try.f10 [.int .u8 ((n : Nat) : Int)] H0)).val? (usesT ((n : Nat) : Int))) tab10_18 n (by omega) (by omega)
  rcases Nat.lt_or_ge n 160 with g19 | g19
  · exact range_all (p := fun n => tabI (Ly.run env.bare 60000 [] (Ly.start Try.f10 [.int .u8 ((n : Nat) : Int)] H0)).val? (usesT ((n : Nat) : Int))) tab10_19 n (by omega) (by omega)
  rcases Nat.lt_or_ge n 168 with g20 | g20
  · exact range_all (p := fun n => tabI (Ly.run env.bare 60000 [] (Ly.start Try.f10 [.int .u8 ((n : Nat) : Int)] H0)).val? (usesT ((n : Nat) : Int))) tab10_20 n (by omega) (by omega)
  rcases Nat.lt_or_ge n 176 with g21 | g21
  · exact range_all (p := fun n => tabI (Ly.run env.bare 60000 [] (Ly.start Try.f10 [.int .u8 ((n : Nat) : Int)] H0)).val? (usesT ((n : Nat) : Int))) tab10_21 n (by omega) (by omega)
  rcases Nat.lt_or_ge n 184 with g22 | g22
  · exact range_all (p := fun n => tabI (Ly.run env.bare 60000 [] (Ly.start Try.f10 [.int .u8 ((n : Nat) : Int)] H0)).val? (usesT ((n : Nat) : Int))) tab10_22 n (by omega) (by omega)
  rcases Nat.lt_or_ge n 192 with g23 | g23
  · exact range_all (p := fun n => tabI (Ly.run env.bare 60000 [] (Ly.start Try.f10 [.int .u8 ((n : Nat) : Int)] H0)).val? (usesT ((n : Nat) : Int))) tab10_23 n (by omega) (by omega)
  rcases Nat.lt_or_ge n 200 with g24 | g24
  · exact range_all (p := fun n => tabI (Ly.run env.bare 60000 [] (Ly.start Try.f10 [.int .u8 ((n : Nat) : Int)] H0)).val? (usesT ((n : Nat) : Int))) tab10_24 n (by omega) (by omega)
  rcases Nat.lt_or_ge n 208 with g25 | g25
  · exact range_all (p := fun n => tabI (Ly.run env.bare 60000 [] (Ly.start Try.f10 [.int .u8 ((n : Nat) : Int)] H0)).val? (usesT ((n : Nat) : Int))) tab10_25 n (by omega) (by omega)
  rcases Nat.lt_or_ge n 216 with g26 | g26
  · exact range_all (p := fun n => tabI (Ly.run env.bare 60000 [] (Ly.start Try.f10 [.int .u8 ((n : Nat) : Int)] H0)).val? (usesT ((n : Nat) : Int))) tab10_26 n (by omega) (by omega)
  rcases Nat.lt_or_ge n 224 with g27 | g27
  · exact range_all (p := fun n => tabI (Ly.run env.bare 60000 [] (Ly.start Try.f10 [.int .u8 ((n : Nat) : Int)] H0)).val? (usesT ((n : Nat) : Int))) tab10_27 n (by omega) (by omega)
  rcases Nat.lt_or_ge n 232 with g28 | g28
  · exact range_all (p := fun n => tabI (Ly.run env.bare 60000 [] (Ly.start Try.f10 [.int .u8 ((n : Nat) : Int)] H0)).val? (usesT ((n : Nat) : Int))) tab10_28 n (by omega) (by omega)
  rcases Nat.lt_or_ge n 240 with g29 | g29
  · exact range_all (p := fun n => tabI (Ly.run env.bare 60000 [] (Ly.start Try.f10 [.int .u8 ((n : Nat) : Int)] H0)).val? (usesT ((n : Nat) : Int))) tab10_29 n (by omega) (by omega)
  rcases Nat.lt_or_ge n 248 with g30 | g30
  · exact range_all (p := fun n => tabI (Ly.run env.bare 60000 [] (Ly.start Try.f10 [.int .u8 ((n : Nat) : Int)] H0)).val? (usesT ((n : Nat) : Int))) tab10_30 n (by omega) (by omega)
  rcases Nat.lt_or_ge n 256 with g31 | g31
  · exact range_all (p := fun n => tabI (Ly.run env.bare 60000 [] (Ly.start Try.f10 [.int .u8 ((n : Nat) : Int)] H0)).val? (usesT ((n : Nat) : Int))) tab10_31 n (by omega) (by omega)
  omega
theorem tab10_get : env.bare.fn.get 10 = some Try.f10 := by kernel_rfl
theorem tab10_ans : Answers Try.prog 10 (tabC usesT) := tab_ans tab10_get (by kernel_rfl) (fun n h => tab10_all n h)
theorem tab12_all (n : Nat) (h : n < 256) : tabI (Ly.run env.bare 60000 [] (Ly.start Try.f12 [.int .u8 ((n : Nat) : Int)] H0)).val? (setsT ((n : Nat) : Int)) = true := by
  rcases Nat.lt_or_ge n 8 with g0 | g0
  · exact range_all (p := fun n => tabI (Ly.run env.bare 60000 [] (Ly.start Try.f12 [.int .u8 ((n : Nat) : Int)] H0)).val? (setsT ((n : Nat) : Int))) tab12_0 n (by omega) (by omega)
  rcases Nat.lt_or_ge n 16 with g1 | g1
  · exact range_all (p := fun n => tabI (Ly.run env.bare 60000 [] (Ly.start Try.f12 [.int .u8 ((n : Nat) : Int)] H0)).val? (setsT ((n : Nat) : Int))) tab12_1 n (by omega) (by omega)
  rcases Nat.lt_or_ge n 24 with g2 | g2
  · exact range_all (p := fun n => tabI (Ly.run env.bare 60000 [] (Ly.start Try.f12 [.int .u8 ((n : Nat) : Int)] H0)).val? (setsT ((n : Nat) : Int))) tab12_2 n (by omega) (by omega)
  rcases Nat.lt_or_ge n 32 with g3 | g3
  · exact range_all (p := fun n => tabI (Ly.run env.bare 60000 [] (Ly.start Try.f12 [.int .u8 ((n : Nat) : Int)] H0)).val? (setsT ((n : Nat) : Int))) tab12_3 n (by omega) (by omega)
  rcases Nat.lt_or_ge n 40 with g4 | g4
  · exact range_all (p := fun n => tabI (Ly.run env.bare 60000 [] (Ly.start Try.f12 [.int .u8 ((n : Nat) : Int)] H0)).val? (setsT ((n : Nat) : Int))) tab12_4 n (by omega) (by omega)
  rcases Nat.lt_or_ge n 48 with g5 | g5
  · exact range_all (p := fun n => tabI (Ly.run env.bare 60000 [] (Ly.start Try.f12 [.int .u8 ((n : Nat) : Int)] H0)).val? (setsT ((n : Nat) : Int))) tab12_5 n (by omega) (by omega)
  rcases Nat.lt_or_ge n 56 with g6 | g6
  · exact range_all (p := fun n => tabI (Ly.run env.bare 60000 [] (Ly.start Try.f12 [.int .u8 ((n : Nat) : Int)] H0)).val? (setsT ((n : Nat) : Int))) tab12_6 n (by omega) (by omega)
  rcases Nat.lt_or_ge n 64 with g7 | g7
  · exact range_all (p := fun n => tabI (Ly.run env.bare 60000 [] (Ly.start Try.f12 [.int .u8 ((n : Nat) : Int)] H0)).val? (setsT ((n : Nat) : Int))) tab12_7 n (by omega) (by omega)
  rcases Nat.lt_or_ge n 72 with g8 | g8
  · exact range_all (p := fun n => tabI (Ly.run env.bare 60000 [] (Ly.start Try.f12 [.int .u8 ((n : Nat) : Int)] H0)).val? (setsT ((n : Nat) : Int))) tab12_8 n (by omega) (by omega)
  rcases Nat.lt_or_ge n 80 with g9 | g9
  · exact range_all (p := fun n => tabI (Ly.run env.bare 60000 [] (Ly.start Try.f12 [.int .u8 ((n : Nat) : Int)] H0)).val? (setsT ((n : Nat) : Int))) tab12_9 n (by omega) (by omega)
  rcases Nat.lt_or_ge n 88 with g10 | g10
  · exact range_all (p := fun n => tabI (Ly.run env.bare 60000 [] (Ly.start Try.f12 [.int .u8 ((n : Nat) : Int)] H0)).val? (setsT ((n : Nat) : Int))) tab12_10 n (by omega) (by omega)
  rcases Nat.lt_or_ge n 96 with g11 | g11
  · exact range_all (p := fun n => tabI (Ly.run env.bare 60000 [] (Ly.start Try.f12 [.int .u8 ((n : Nat) : Int)] H0)).val? (setsT ((n : Nat) : Int))) tab12_11 n (by omega) (by omega)
  rcases Nat.lt_or_ge n 104 with g12 | g12
  · exact range_all (p := fun n => tabI (Ly.run env.bare 60000 [] (Ly.start Try.f12 [.int .u8 ((n : Nat) : Int)] H0)).val? (setsT ((n : Nat) : Int))) tab12_12 n (by omega) (by omega)
  rcases Nat.lt_or_ge n 112 with g13 | g13
  · exact range_all (p := fun n => tabI (Ly.run env.bare 60000 [] (Ly.start Try.f12 [.int .u8 ((n : Nat) : Int)] H0)).val? (setsT ((n : Nat) : Int))) tab12_13 n (by omega) (by omega)
  rcases Nat.lt_or_ge n 120 with g14 | g14
  · exact range_all (p := fun n => tabI (Ly.run env.bare 60000 [] (Ly.start Try.f12 [.int .u8 ((n : Nat) : Int)] H0)).val? (setsT ((n : Nat) : Int))) tab12_14 n (by omega) (by omega)
  rcases Nat.lt_or_ge n 128 with g15 | g15
  · exact range_all (p := fun n => tabI (Ly.run env.bare 60000 [] (Ly.start Try.f12 [.int .u8 ((n : Nat) : Int)] H0)).val? (setsT ((n : Nat) : Int))) tab12_15 n (by omega) (by omega)
  rcases Nat.lt_or_ge n 136 with g16 | g16
  · exact range_all (p := fun n => tabI (Ly.run env.bare 60000 [] (Ly.start Try.f12 [.int .u8 ((n : Nat) : Int)] H0)).val? (setsT ((n : Nat) : Int))) tab12_16 n (by omega) (by omega)
  rcases Nat.lt_or_ge n 144 with g17 | g17
  · exact range_all (p := fun n => tabI (Ly.run env.bare 60000 [] (Ly.start Try.f12 [.int .u8 ((n : Nat) : Int)] H0)).val? (setsT ((n : Nat) : Int))) tab12_17 n (by omega) (by omega)
  rcases Nat.lt_or_ge n 152 with g18 | g18
  · exact range_all (p := fun n => tabI (Ly.run env.bare 60000 [] (Ly.start Try.f12 [.int .u8 ((n : Nat) : Int)] H0)).val? (setsT ((n : Nat) : Int))) tab12_18 n (by omega) (by omega)
  rcases Nat.lt_or_ge n 160 with g19 | g19
  · exact range_all (p := fun n => tabI (Ly.run env.bare 60000 [] (Ly.start Try.f12 [.int .u8 ((n : Nat) : Int)] H0)).val? (setsT ((n : Nat) : Int))) tab12_19 n (by omega) (by omega)
  rcases Nat.lt_or_ge n 168 with g20 | g20
  · exact range_all (p := fun n => tabI (Ly.run env.bare 60000 [] (Ly.start Try.f12 [.int .u8 ((n : Nat) : Int)] H0)).val? (setsT ((n : Nat) : Int))) tab12_20 n (by omega) (by omega)
  rcases Nat.lt_or_ge n 176 with g21 | g21
  · exact range_all (p := fun n => tabI (Ly.run env.bare 60000 [] (Ly.start Try.f12 [.int .u8 ((n : Nat) : Int)] H0)).val? (setsT ((n : Nat) : Int))) tab12_21 n (by omega) (by omega)
  rcases Nat.lt_or_ge n 184 with g22 | g22
  · exact range_all (p := fun n => tabI (Ly.run env.bare 60000 [] (Ly.start Try.f12 [.int .u8 ((n : Nat) : Int)] H0)).val? (setsT ((n : Nat) : Int))) tab12_22 n (by omega) (by omega)
  rcases Nat.lt_or_ge n 192 with g23 | g23
  · exact range_all (p := fun n => tabI (Ly.run env.bare 60000 [] (Ly.start Try.f12 [.int .u8 ((n : Nat) : Int)] H0)).val? (setsT ((n : Nat) : Int))) tab12_23 n (by omega) (by omega)
  rcases Nat.lt_or_ge n 200 with g24 | g24
  · exact range_all (p := fun n => tabI (Ly.run env.bare 60000 [] (Ly.start Try.f12 [.int .u8 ((n : Nat) : Int)] H0)).val? (setsT ((n : Nat) : Int))) tab12_24 n (by omega) (by omega)
  rcases Nat.lt_or_ge n 208 with g25 | g25
  · exact range_all (p := fun n => tabI (Ly.run env.bare 60000 [] (Ly.start Try.f12 [.int .u8 ((n : Nat) : Int)] H0)).val? (setsT ((n : Nat) : Int))) tab12_25 n (by omega) (by omega)
  rcases Nat.lt_or_ge n 216 with g26 | g26
  · exact range_all (p := fun n => tabI (Ly.run env.bare 60000 [] (Ly.start Try.f12 [.int .u8 ((n : Nat) : Int)] H0)).val? (setsT ((n : Nat) : Int))) tab12_26 n (by omega) (by omega)
  rcases Nat.lt_or_ge n 224 with g27 | g27
  · exact range_all (p := fun n => tabI (Ly.run env.bare 60000 [] (Ly.start Try.f12 [.int .u8 ((n : Nat) : Int)] H0)).val? (setsT ((n : Nat) : Int))) tab12_27 n (by omega) (by omega)
  rcases Nat.lt_or_ge n 232 with g28 | g28
  · exact range_all (p := fun n => tabI (Ly.run env.bare 60000 [] (Ly.start Try.f12 [.int .u8 ((n : Nat) : Int)] H0)).val? (setsT ((n : Nat) : Int))) tab12_28 n (by omega) (by omega)
  rcases Nat.lt_or_ge n 240 with g29 | g29
  · exact range_all (p := fun n => tabI (Ly.run env.bare 60000 [] (Ly.start Try.f12 [.int .u8 ((n : Nat) : Int)] H0)).val? (setsT ((n : Nat) : Int))) tab12_29 n (by omega) (by omega)
  rcases Nat.lt_or_ge n 248 with g30 | g30
  · exact range_all (p := fun n => tabI (Ly.run env.bare 60000 [] (Ly.start Try.f12 [.int .u8 ((n : Nat) : Int)] H0)).val? (setsT ((n : Nat) : Int))) tab12_30 n (by omega) (by omega)
  rcases Nat.lt_or_ge n 256 with g31 | g31
  · exact range_all (p := fun n => tabI (Ly.run env.bare 60000 [] (Ly.start Try.f12 [.int .u8 ((n : Nat) : Int)] H0)).val? (setsT ((n : Nat) : Int))) tab12_31 n (by omega) (by omega)
  omega
theorem tab12_get : env.bare.fn.get 12 = some Try.f12 := by kernel_rfl
theorem tab12_ans : Answers Try.prog 12 (tabC setsT) := tab_ans tab12_get (by kernel_rfl) (fun n h => tab12_all n h)
end Go.Proofs.Ytdjmpilegommlaa
namespace Go.Proofs.Ytdjmpilegommlaa
open Go Go.Ly Go.RowKit
def wF (o : Nat → Int) (g : Nat → Nat) (l : List Nat) (w : Nat) : Nat := l.foldl (fun w e => w ||| inN (usN o) (ssN o) g e) w
theorem wF_base (o : Nat → Int) (g : Nat → Nat) : ∀ (l : List Nat) (w : Nat), Sub w (wF o g l w)
  | [], w => Sub.refl _
  | e :: l, w => (Sub.left w _).trans (wF_base o g l _)
theorem wF_in {o : Nat → Int} {g : Nat → Nat} {e : Nat} : ∀ (l : List Nat) (w : Nat), e ∈ l → Sub (inN (usN o) (ssN o) g e) (wF o g l w)
  | x :: l, w, h => by
    rcases List.mem_cons.1 h with rfl | h
    · exact (Sub.right w _).trans (wF_base o g l _)
    · exact wF_in l _ h
theorem wF_sub {o : Nat → Int} {g : Nat → Nat} {z : Nat} : ∀ (l : List Nat) (w : Nat), Sub w z → (∀ e ∈ l, Sub (inN (usN o) (ssN o) g e) z) → Sub (wF o g l w) z
  | [], w, h, _ => h
  | x :: l, w, h, hl => wF_sub l _ (Sub.or h (hl x (by simp))) (fun e he => hl e (by simp [he]))
theorem LeastL.fix {a o n : Nat → Int} {k : Nat} {g : Nat → Nat} (h : LeastL a o n k g) {x : Nat} (hx : x < k) : wF o g (toL a o n k x) (bsN a o n k x) = g x := by
  have up : ∀ y, y < k → Sub (wF o g (toL a o n k y) (bsN a o n k y)) (g y) := fun y hy =>
    wF_sub _ _ (h.pre.base y hy) fun e he => h.pre.edge e y (toL_in he) (prL_in.2 ⟨hy, he⟩)
  refine (up x hx).anti (h.least (fun y => wF o g (toL a o n k y) (bsN a o n k y)) ⟨fun y _ => wF_base o g _ _, fun e y he hy => ?_⟩ x hx)
  exact (inN_sub (up e he)).trans (wF_in _ _ (prL_in.1 hy).2)
theorem wF_lt {o : Nat → Int} {g : Nat → Nat} (hg : ∀ e, g e < 32) : ∀ (l : List Nat) (w : Nat), w < 32 → wF o g l w < 32
  | [], w, h => h
  | x :: l, w, h => wF_lt hg l _ (or_lt h (or_lt (usN_lt o x) (and_lt _ (hg x))))
theorem ls_P (a o n g p : Nat → Int) (k m q : Nat) : ∀ y ∈ lsQ a o n g p k m q, ∀ z, y = some z → plainO z := by
  intro y hy z hz
  simp only [lsQ, List.mem_cons, List.not_mem_nil, or_false] at hy
  rcases hy with rfl | rfl | rfl <;> (simp only [Option.some.injEq] at hz; subst hz)
  · exact plain_ndL _ _ _ _
  · intro e j; simp [noBlk, blks]
  · intro e j; simp [noBlk, blks]
theorem ls_P2 (a o n g : Nat → Int) (k m : Nat) : ∀ y ∈ lsO a o n g k m, ∀ z, y = some z → plainO z := by
  intro y hy z hz
  simp only [lsO, List.mem_cons, List.not_mem_nil, or_false] at hy
  rcases hy with rfl | rfl <;> (simp only [Option.some.injEq] at hz; subst hz)
  · exact plain_ndL _ _ _ _
  · intro e j; simp [noBlk, blks]
section
variable {Q : Value → Heap → Prop} {a o n : Nat → Int} {k : Nat} {g : Nat → Nat}
end
end Go.Proofs.Ytdjmpilegommlaa
namespace Go.Proofs.Ytdjmpilegommlaa
open Go Go.Ly Go.RowKit
theorem ndG_0 (a o n : Nat → Int) : (fun e x => ndG a o n (0 + e) x) = ndG a o n := by funext e x; simp
theorem rowT_ok {a o n : Nat → Int} {k : Nat} (hk : k ≤ 100) : rowT a o n k = true := by unfold rowT; rw [ndG_0, okN_nd _ _ _ (by omega)]; simp
end Go.Proofs.Ytdjmpilegommlaa
namespace Go.Proofs.Ytdjmpilegommlaa
open Go Go.Ly Go.RowKit
end Go.Proofs.Ytdjmpilegommlaa
namespace Go.Proofs.Ytdjmpilegommlaa
open Go Go.Ly Go.RowKit
def cyL : Ctx := (((env.bare.with 10 (tabC usesT)).with 12 (tabC setsT)).withC 18 riC).withH 34 n6C
theorem cyL_ok : cyL.Ok Try.prog := ((((Env.bare_ok envOk).with tab10_ans).with tab12_ans).withC riC_good).withH n6C_good
def l6D : St := Ly.start Try.f16 [] H0
def l6S (a o n : Nat → Int) (k : Nat) : St := Ly.start Try.f16 [sls 0 k] (mkH [some (ndL a o n k)])
def l6p (l : Path) : Path := (0, true) :: (0, false) :: (0, true) :: l
def l6K0 : List KI := ((Ly.run cyL 28 (l6p []) (l6S zF zF zF 0)).st l6D).top.k
def l6K1 : List KI := ((Ly.run cyL 46 (l6p []) (l6S zF zF zF 0)).st l6D).top.k
def l6K2 : List KI := ((Ly.run cyL 87 (l6p [(1, true), (0, true), (0, true), (0, false)]) (l6S zF zF zF 0)).st l6D).top.k
def l6V0 (k : Nat) (ch : Bool) : List Value := slots 73 [(0, sls 0 k), (4, sl 1 k), (5, .bool ch)]
def l6V1 (k : Nat) (ch : Bool) (i : Int) : List Value := slots 73 [(0, sls 0 k), (4, sl 1 k), (5, .bool ch), (6, .int .i64 i)]
def l6V2 (k : Nat) (ch : Bool) (i : Int) (t : Value) (m j : Int) : List Value := slots 73 [(0, sls 0 k), (4, sl 1 k), (5, .bool ch), (6, .int .i64 i), (7, t), (9, .int .i64 m), (10, .int .i64 j)]
def l6O (a o n g : Nat → Int) (k : Nat) : List (Option LO) := [some (ndL a o n k), some (inL g k)]
def l6Q (a o n g p : Nat → Int) (k q : Nat) : List (Option LO) := [some (ndL a o n k), some (inL g k), some (inL p q)]
def l6U (g : Nat → Int) (i m : Int) (k : Nat) : LO := .fn 1 (updG (fun e _ => .int .i64 (g e)) (0 + i.toNat * 1) 0 [.int .i64 m]) k 3
def l6B (a o : Nat → Int) (k : Nat) : Bool := !riN k (sh a) (sh o)
def l6M (k : Nat) : Bool := decide ((0 : Int) ≤ k) && (decide ((k : Int) ≤ k) && decide ((k : Int) ≤ 4294967296))
def n6T (a o n : Nat → Int) (k : Nat) (i : Int) : Bool := Nat.ble (0 + k) k && (okN k (fun e x => ndG a o n (0 + e) x) && (((List.range k).all fun e => inb (sh o e)) && (((List.range k).all fun e => in16 (sh a e) && in16 (sh n e)) && (decide (0 ≤ i) && decide (i < k)))))
def l6N (a o n : Nat → Int) (k : Nat) (i : Int) : List Int × Bool := nxF k (sh a) (sh o) (sh n) i
def l6R (a o n g : Nat → Int) (k : Nat) (i : Int) : List (Option LO) := [some (ndL a o n k), some (inL g k), some (inL (fun e => ((l6N a o n k i).1[e]?).getD 0) (l6N a o n k i).1.length)]
def l6Y (o g : Nat → Int) (m x : Int) : Int := bits .or .i64 (bits .or .i64 m (usesT (o (0 + x.toNat)))) (bits .and .i64 (gA g x) (IntKind.i64.wrap (31 - setsT (o (0 + x.toNat)))))
theorem l6_0 (a o n g p : Nat → Int) (k q : Nat) (ch : Bool) (i m j : Int) : headAt [0, 4, 5] [0, 1] l6D (Ly.run cyL 28 [(0, true), (0, false), (0, true)] (l6S a o n k)) = (true, [(rowTr a o n k, true), (l6B a o k, false), (l6M k, true)], true, (Try.f16, l6K0, none, 1), l6V0 k true, [some (ndL a o n k), some (zL k)]) := by kernel_rfl
theorem l6_1 (a o n g p : Nat → Int) (k q : Nat) (ch : Bool) (i m j : Int) : headAt [0, 4, 5, 6] [0, 1] l6D (Ly.run cyL 18 [] (mkSt Try.f16 l6K0 none 1 (l6V0 k true) (l6O a o n g k))) = (true, [], true, (Try.f16, l6K1, none, 1), l6V1 k false 0, l6O a o n g k) := by kernel_rfl
theorem l6_2 (a o n g p : Nat → Int) (k q : Nat) (ch : Bool) (i m j : Int) : headAt [0, 4, 5] [0, 1] l6D (Ly.run cyL 12 [(0, false)] (mkSt Try.f16 l6K1 none 1 (l6V1 k ch i) (l6O a o n g k))) = (true, [(decide (i < k), false)], true, (Try.f16, l6K0, none, 1), l6V0 k ch, l6O a o n g k) := by kernel_rfl
theorem l6_3tt (a o n g p : Nat → Int) (k q : Nat) (ch : Bool) (i m j : Int) : headAt [0, 4, 5, 6, 7, 9, 10] [0, 1] l6D (Ly.run cyL 43 [(0, true), (0, true), (0, true), (0, true)] (mkSt Try.f16 l6K1 none 1 (l6V1 k ch i) (l6O a o n g k))) = (true, [(decide (i < k), true), (n6T a o n k i, true), (Nat.beq (l6N a o n k i).1.length 0, true), ((l6N a o n k i).2, true)], true, (Try.f16, l6K2, none, 1), l6V2 k ch i (.slice none 0 0) 31 0, l6O a o n g k) := by kernel_rfl
theorem l6_3tf (a o n g p : Nat → Int) (k q : Nat) (ch : Bool) (i m j : Int) : headAt [0, 4, 5, 6, 7, 9, 10] [0, 1] l6D (Ly.run cyL 41 [(0, true), (0, true), (0, true), (0, false)] (mkSt Try.f16 l6K1 none 1 (l6V1 k ch i) (l6O a o n g k))) = (true, [(decide (i < k), true), (n6T a o n k i, true), (Nat.beq (l6N a o n k i).1.length 0, true), ((l6N a o n k i).2, false)], true, (Try.f16, l6K2, none, 1), l6V2 k ch i (.slice none 0 0) 0 0, l6O a o n g k) := by kernel_rfl
theorem l6_3ft (a o n g p : Nat → Int) (k q : Nat) (ch : Bool) (i m j : Int) : headAt [0, 4, 5, 6, 7, 9, 10] [0, 1, 2] l6D (Ly.run cyL 43 [(0, true), (0, true), (0, false), (0, true)] (mkSt Try.f16 l6K1 none 1 (l6V1 k ch i) (l6O a o n g k))) = (true, [(decide (i < k), true), (n6T a o n k i, true), (Nat.beq (l6N a o n k i).1.length 0, false), ((l6N a o n k i).2, true)], true, (Try.f16, l6K2, none, 1), l6V2 k ch i (sl 2 (l6N a o n k i).1.length) 31 0, l6R a o n g k i) := by kernel_rfl
theorem l6_3ff (a o n g p : Nat → Int) (k q : Nat) (ch : Bool) (i m j : Int) : headAt [0, 4, 5, 6, 7, 9, 10] [0, 1, 2] l6D (Ly.run cyL 41 [(0, true), (0, true), (0, false), (0, false)] (mkSt Try.f16 l6K1 none 1 (l6V1 k ch i) (l6O a o n g k))) = (true, [(decide (i < k), true), (n6T a o n k i, true), (Nat.beq (l6N a o n k i).1.length 0, false), ((l6N a o n k i).2, false)], true, (Try.f16, l6K2, none, 1), l6V2 k ch i (sl 2 (l6N a o n k i).1.length) 0 0, l6R a o n g k i) := by kernel_rfl
theorem l6_4 (a o n g p : Nat → Int) (k q : Nat) (ch : Bool) (i m j : Int) : headAt [0, 4, 5, 6, 7, 9, 10] [0, 1, 2] l6D (Ly.run cyL 32 [(0, true), (0, true), (0, true), (0, true), (0, true), (0, true), (0, true), (0, true), (0, true), (0, true), (0, true)] (mkSt Try.f16 l6K2 none 1 (l6V2 k ch i (sl 2 q) m j) (l6Q a o n g p k q))) = (true, [(decide (j < q), true), (ixB q j, true), (Nat.blt (0 + j.toNat * 1) q, true), (ixB k (gA p j), true), (Nat.blt (0 + (gA p j).toNat) k, true), (inb (o (0 + (gA p j).toNat)), true), (ixB q j, true), (Nat.blt (0 + j.toNat * 1) q, true), (ixB k (gA p j), true), (Nat.blt (0 + (gA p j).toNat * 1) k, true), (inb (o (0 + (gA p j).toNat)), true)], true, (Try.f16, l6K2, none, 1), l6V2 k ch i (sl 2 q) (l6Y o g m (gA p j)) (jW j), l6Q a o n g p k q) := by kernel_rfl
theorem l6_5t (a o n g p : Nat → Int) (k q : Nat) (ch : Bool) (i m j : Int) : headAt [0, 4, 5, 6] [0, 1] l6D (Ly.run cyL 38 [(0, false), (0, true), (0, true), (0, true), (0, true), (0, true)] (mkSt Try.f16 l6K2 none 1 (l6V2 k ch i (sl 2 q) m j) (l6Q a o n g p k q))) = (true, [(decide (j < q), false), (ixB k i, true), (Nat.blt (0 + i.toNat * 1) k, true), (m != gA g i, true), (ixB k i, true), (Nat.blt (0 + i.toNat * 1) k, true)], true, (Try.f16, l6K1, none, 1), l6V1 k true (jW i), [some (ndL a o n k), some (l6U g i m k)]) := by kernel_rfl
theorem l6_5f (a o n g p : Nat → Int) (k q : Nat) (ch : Bool) (i m j : Int) : headAt [0, 4, 5, 6] [0, 1] l6D (Ly.run cyL 28 [(0, false), (0, true), (0, true), (0, false)] (mkSt Try.f16 l6K2 none 1 (l6V2 k ch i (sl 2 q) m j) (l6Q a o n g p k q))) = (true, [(decide (j < q), false), (ixB k i, true), (Nat.blt (0 + i.toNat * 1) k, true), (m != gA g i, false)], true, (Try.f16, l6K1, none, 1), l6V1 k ch (jW i), l6O a o n g k) := by kernel_rfl
theorem l6_6t (a o n g p : Nat → Int) (k q : Nat) (ch : Bool) (i m j : Int) : headAt [0, 4, 5, 6] [0, 1] l6D (Ly.run cyL 38 [(0, false), (0, true), (0, true), (0, true), (0, true), (0, true)] (mkSt Try.f16 l6K2 none 1 (l6V2 k ch i (.slice none 0 0) m j) (l6O a o n g k))) = (true, [(decide (j < ((0 : Nat) : Int)), false), (ixB k i, true), (Nat.blt (0 + i.toNat * 1) k, true), (m != gA g i, true), (ixB k i, true), (Nat.blt (0 + i.toNat * 1) k, true)], true, (Try.f16, l6K1, none, 1), l6V1 k true (jW i), [some (ndL a o n k), some (l6U g i m k)]) := by kernel_rfl
theorem l6_6f (a o n g p : Nat → Int) (k q : Nat) (ch : Bool) (i m j : Int) : headAt [0, 4, 5, 6] [0, 1] l6D (Ly.run cyL 28 [(0, false), (0, true), (0, true), (0, false)] (mkSt Try.f16 l6K2 none 1 (l6V2 k ch i (.slice none 0 0) m j) (l6O a o n g k))) = (true, [(decide (j < ((0 : Nat) : Int)), false), (ixB k i, true), (Nat.blt (0 + i.toNat * 1) k, true), (m != gA g i, false)], true, (Try.f16, l6K1, none, 1), l6V1 k ch (jW i), l6O a o n g k) := by kernel_rfl
theorem l6_bad (a o n : Nat → Int) (k : Nat) : (Ly.run cyL 60 [(0, true), (0, true)] (l6S a o n k)).out? = some ([(rowTr a o n k, true), (l6B a o k, true)], badT) := by kernel_rfl
theorem l6_end (a o n g : Nat → Int) (k : Nat) : endsAt [1] (Ly.run cyL 60 [] (mkSt Try.f16 l6K0 none 1 (l6V0 k false) (l6O a o n g k))) = some ([], okT 1 k, 2, [some (inL g k)]) := by kernel_rfl
theorem l6_nil : (Ly.run cyL 200 [] (Ly.start Try.f16 [.slice none 0 0] (mkH []))).out? = some ([], okT 0 0) := by kernel_rfl
end Go.Proofs.Ytdjmpilegommlaa
namespace Go.Proofs.Ytdjmpilegommlaa
open Go Go.Ly Go.RowKit
theorem an6_tab : ((List.range 32).all fun x => (List.range 32).all fun y => bits .and .i64 (x : Nat) (IntKind.i64.wrap (31 - (y : Nat))) == ((x &&& (31 - y) : Nat) : Int)) = true := by kernel_rfl
theorem bits_an6 {x y : Nat} (hx : x < 32) (hy : y < 32) : bits .and .i64 (x : Int) (IntKind.i64.wrap (31 - (y : Int))) = ((x &&& (31 - y) : Nat) : Int) := by
  have := List.all_eq_true.1 (List.all_eq_true.1 an6_tab x (List.mem_range.2 hx)) y (List.mem_range.2 hy)
  simpa using this
theorem l6Y_c {o : Nat → Int} {g : Nat → Nat} {w e : Nat} (h : inb (o e) = true) (hw : w < 32) (hg : g e < 32) : l6Y o (castF g) (w : Int) (e : Int) = ((w ||| inN (usN o) (ssN o) g e : Nat) : Int) := by
  unfold l6Y
  rw [show 0 + ((e : Int)).toNat = e by omega, gA_at, usN_c h, ssN_c h, bits_or hw (usN_lt o e)]
  show bits .or .i64 ((w ||| usN o e : Nat) : Int) (bits .and .i64 (g e : Int) (IntKind.i64.wrap (31 - (ssN o e : Int)))) = _
  rw [bits_an6 hg (ssN_lt o e), bits_or (or_lt hw (usN_lt o e)) (and_lt _ hg)]
  unfold inN; rw [Nat.or_assoc]
def wX (a o n : Nat → Int) (k : Nat) (h : Nat → Nat) (x : Nat) : Nat := wF o h (toL a o n k x) (bsN a o n k x)
def upN (h : Nat → Nat) (i w : Nat) : Nat → Nat := fun e => if e = i then w else h e
section
variable {a o n : Nat → Int} {k : Nat}
theorem wX_lt {h : Nat → Nat} (hl : ∀ e, h e < 32) (x : Nat) : wX a o n k h x < 32 := wF_lt hl _ _ (bsN_lt a o n k x)
theorem wX_mono {h h' : Nat → Nat} (hs : ∀ e, e < k → Sub (h e) (h' e)) (x : Nat) : Sub (wX a o n k h x) (wX a o n k h' x) :=
  wF_sub _ _ (wF_base o h' _ _) (fun e he => (inN_sub (hs e (toL_in he))).trans (wF_in _ _ he))
theorem Sub.le {x y : Nat} (h : Sub x y) : x ≤ y := by unfold Sub at h; rw [← h]; exact Nat.left_le_or
structure Inv6 (a o n : Nat → Int) (k : Nat) (h : Nat → Nat) : Prop where
  lt : ∀ e, h e < 32
  up : ∀ x, x < k → Sub (h x) (wX a o n k h x)
  le : ∀ x, x < k → Sub (h x) (livN a o n k x)
theorem livN_fix {x : Nat} (hx : x < k) : wX a o n k (livN a o n k) x = livN a o n k x := (livN_least a o n k).fix hx
theorem Inv6.zero : Inv6 a o n k (fun _ => 0) := ⟨fun _ => by decide, fun x _ => Sub.zero _, fun x _ => Sub.zero _⟩
theorem Inv6.upd {h : Nat → Nat} (hI : Inv6 a o n k h) {i : Nat} (hi : i < k) : Inv6 a o n k (upN h i (wX a o n k h i)) := by
  have hsub : ∀ e, e < k → Sub (h e) (upN h i (wX a o n k h i) e) := fun e he => by
    unfold upN; split
    · rename_i e'; subst e'; exact hI.up e he
    · exact Sub.refl _
  refine ⟨fun e => ?_, fun x hx => ?_, fun x hx => ?_⟩
  · unfold upN; split
    · exact wX_lt hI.lt i
    · exact hI.lt e
  · have m := wX_mono (a := a) (o := o) (n := n) hsub x
    show Sub (upN h i (wX a o n k h i) x) _
    by_cases e : x = i
    · subst e; unfold upN at m ⊢; rw [if_pos rfl]; exact m
    · have : upN h i (wX a o n k h i) x = h x := by unfold upN; rw [if_neg e]
      rw [this]; exact (hI.up x hx).trans m
  · unfold upN; split
    · rename_i e; subst e
      have := wX_mono (a := a) (o := o) (n := n) hI.le x
      rw [livN_fix hx] at this; exact this
    · exact hI.le x hx
theorem Inv6.fin {h : Nat → Nat} (hI : Inv6 a o n k h) (hf : ∀ x, x < k → wX a o n k h x = h x) {x : Nat} (hx : x < k) : h x = livN a o n k x := by
  refine (hI.le x hx).anti ((livN_least a o n k).least h ⟨fun y hy => ?_, fun e y he hy => ?_⟩ x hx)
  · rw [← hf y hy]; exact wF_base o h _ _
  · have := prL_in.1 hy
    rw [← hf y this.1]; exact wF_in _ _ this.2
structure Rel6 (a o n : Nat → Int) (k : Nat) (h0 : Nat → Nat) (i : Nat) (h : Nat → Nat) (ch : Bool) : Prop where
  inv : Inv6 a o n k h
  le : ∀ e, h0 e ≤ h e
  same : ch = false → h = h0 ∧ ∀ x, x < i → wX a o n k h0 x = h0 x
  more : ch = true → ∃ x, x < k ∧ h0 x < h x
theorem Rel6.stay {h0 h : Nat → Nat} {i : Nat} {ch : Bool} (hR : Rel6 a o n k h0 i h ch) (he : wX a o n k h i = h i) : Rel6 a o n k h0 (i + 1) h ch := by
  refine ⟨hR.inv, hR.le, fun hc => ⟨(hR.same hc).1, fun x hx => ?_⟩, hR.more⟩
  by_cases e : x = i
  · subst e; rw [← (hR.same hc).1]; exact he
  · exact (hR.same hc).2 x (by omega)
theorem Rel6.go {h0 h : Nat → Nat} {i : Nat} {ch : Bool} (hR : Rel6 a o n k h0 i h ch) (hi : i < k) (he : wX a o n k h i ≠ h i) : Rel6 a o n k h0 (i + 1) (upN h i (wX a o n k h i)) true := by
  have h1 := (hR.inv.up i hi).le
  refine ⟨hR.inv.upd hi, fun e => ?_, fun hc => (Bool.noConfusion hc), fun _ => ⟨i, hi, ?_⟩⟩
  · have := hR.le e
    unfold upN; split
    · rename_i e'; subst e'; omega
    · exact this
  · have := hR.le i
    unfold upN; rw [if_pos rfl]; omega
theorem l6_PO (a o n g : Nat → Int) (k : Nat) : ∀ y ∈ l6O a o n g k, ∀ z, y = some z → plainO z := ls_P2 a o n g k k
theorem l6_PQ (a o n g p : Nat → Int) (k q : Nat) : ∀ y ∈ l6Q a o n g p k q, ∀ z, y = some z → plainO z := ls_P a o n g p k k q
theorem l6_PU (a o n g : Nat → Int) (k : Nat) (i m : Int) : ∀ y ∈ [some (ndL a o n k), some (l6U g i m k)], ∀ z, y = some z → plainO z := by
  intro y hy z hz
  simp only [List.mem_cons, List.not_mem_nil, or_false] at hy
  rcases hy with rfl | rfl <;> (simp only [Option.some.injEq] at hz; subst hz)
  · exact plain_ndL _ _ _ _
  · intro e j
    show noBlk (updG (fun e _ => .int .i64 (g e)) (0 + i.toNat * 1) 0 [.int .i64 m] e j)
    unfold updG
    cases (Nat.ble 0 j && Nat.blt j (0 + [Value.int .i64 m].length)) with
    | false => simp [noBlk, blks]
    | true =>
      rw [cond_true, vif_eq]
      cases Nat.beq e (0 + i.toNat * 1) with
      | false => simp [noBlk, blks]
      | true =>
        rw [cond_true]
        rcases j with _ | j <;> simp [noBlk, blks, blksL, undef]
theorem l6U_eq (h : Nat → Nat) (i w k : Nat) : LOeq (l6U (castF h) (i : Int) (w : Int) k) (inL (castF (upN h i w)) k) := by
  refine .inr ⟨1, _, _, k, 3, rfl, rfl, fun e j he hj => ?_⟩
  obtain rfl : j = 0 := by omega
  show updG (fun e _ => .int .i64 (castF h e)) (0 + ((i : Int)).toNat * 1) 0 [.int .i64 (w : Int)] e 0 = .int .i64 (castF (upN h i w) e)
  have e0 : 0 + ((i : Int)).toNat * 1 = i := by omega
  rw [e0]
  unfold updG
  rw [show (Nat.ble 0 0 && Nat.blt 0 (0 + [Value.int .i64 (w : Int)].length)) = true from rfl, cond_true, vif_eq]
  unfold castF upN
  by_cases h1 : e = i
  · rw [show Nat.beq e i = true from by rw [h1]; exact Nat.beq_refl i, cond_true, if_pos h1]; rfl
  · rw [show Nat.beq e i = false from Bool.eq_false_iff.2 fun h' => h1 (Nat.eq_of_beq_eq_true h'), cond_false, if_neg h1]
variable {Q : Value → Heap → Prop}
theorem l6_cmp (hk : k ≤ 100) {h0 h : Nat → Nat} {ch : Bool} {i w : Nat} {jt : Bool} (hi : i < k) (hw : w = wX a o n k h i) (hR : Rel6 a o n k h0 i h ch) (hs : ∀ h ch, Rel6 a o n k h0 (i + 1) h ch → MWp Try.prog (mkSt Try.f16 l6K1 none 1 (l6V1 k ch ((i + 1 : Nat) : Int)) (l6O a o n (castF h) k)) Q)
    {S : St} (h1 : headAt [0, 4, 5, 6] [0, 1] l6D (Ly.run cyL 38 [(0, false), (0, true), (0, true), (0, true), (0, true), (0, true)] S) = (true, [(jt, false), (ixB k i, true), (Nat.blt (0 + ((i : Int)).toNat * 1) k, true), ((w : Int) != gA (castF h) i, true), (ixB k i, true), (Nat.blt (0 + ((i : Int)).toNat * 1) k, true)], true, (Try.f16, l6K1, none, 1), l6V1 k true (jW i), [some (ndL a o n k), some (l6U (castF h) i w k)]))
    (h2 : headAt [0, 4, 5, 6] [0, 1] l6D (Ly.run cyL 28 [(0, false), (0, true), (0, true), (0, false)] S) = (true, [(jt, false), (ixB k i, true), (Nat.blt (0 + ((i : Int)).toNat * 1) k, true), ((w : Int) != gA (castF h) i, false)], true, (Try.f16, l6K1, none, 1), l6V1 k ch (jW i), l6O a o n (castF h) k))
    (hj : jt = false) : MWp Try.prog S Q := by
  obtain ⟨i1, i2, i3, i4⟩ := ix_tests hi
  have i5 : Nat.blt (0 + ((i : Int)).toNat * 1) k = true := by rw [Nat.blt_eq]; omega
  have hjw : jW (i : Int) = ((i + 1 : Nat) : Int) := by unfold jW; rw [IntKind.wrap_i64]; omega
  by_cases he : wX a o n k h i = h i
  · refine MWp.head cyL_ok _ _ _ _ h2 ?_ (l6_PO a o n (castF h) k) ?_
    · have e2 : ((w : Int) != gA (castF h) i) = false := by rw [gA_at, hw, he]; simp [castF]
      simp only [trusted, hj, i2, i5, e2, and_self]
    · rw [hjw]; exact hs _ _ (hR.stay he)
  · refine MWp.head cyL_ok _ _ _ _ h1 ?_ (l6_PU a o n (castF h) k i w) ?_
    · have e2 : ((w : Int) != gA (castF h) i) = true := by
        rw [gA_at, hw]
        simp only [castF, bne_iff_ne, ne_eq, Int.natCast_inj]; exact he
      simp only [trusted, hj, i2, i5, e2, and_self]
    · rw [hjw]
      refine MWp.weak (K := mkH (l6O a o n (castF (upN h i w)) k)) (weak_mkH ⟨.inl rfl, l6U_eq h i w k, trivial⟩ (by simp [big])) ?_
      rw [hw]
      exact hs _ _ (hR.go hi he)
theorem l6_inn (hk : k ≤ 100) (ho : ∀ e, e < k → inb (o e) = true) {h0 h : Nat → Nat} {ch : Bool} {i : Nat} (hi : i < k) (hR : Rel6 a o n k h0 i h ch) (hs : ∀ h ch, Rel6 a o n k h0 (i + 1) h ch → MWp Try.prog (mkSt Try.f16 l6K1 none 1 (l6V1 k ch ((i + 1 : Nat) : Int)) (l6O a o n (castF h) k)) Q)
    {T : List Nat} (hT : ∀ e ∈ T, e < k) (hTl : T.length ≤ 2) : ∀ (d j w : Nat), j + d = T.length → w < 32 → wF o h (T.drop j) w = wX a o n k h i →
    MWp Try.prog (mkSt Try.f16 l6K2 none 1 (l6V2 k ch i (sl 2 T.length) w j) (l6Q a o n (castF h) (lg T) k T.length)) Q
  | 0, j, w, hd, hw, he => by
    rw [List.drop_eq_nil_of_le (by omega)] at he
    have he : w = wX a o n k h i := he
    exact l6_cmp hk hi he hR hs (l6_5t a o n (castF h) (lg T) k T.length ch i w j) (l6_5f a o n (castF h) (lg T) k T.length ch i w j) (by rw [decide_eq_false_iff_not]; omega)
  | d + 1, j, w, hd, hw, he => by
    have hj : j < T.length := by omega
    have ed : T.drop j = T[j] :: T.drop (j + 1) := List.drop_eq_getElem_cons hj
    rw [ed] at he
    have hx : T[j] < k := hT _ (List.getElem_mem hj)
    obtain ⟨x1, x2, x3, x4⟩ := ix_tests hx
    obtain ⟨j1, j2, j3, j4⟩ := ix_tests hj
    have j5 : Nat.blt (0 + ((j : Int)).toNat * 1) T.length = true := by rw [Nat.blt_eq]; omega
    have x5 : Nat.blt (0 + ((T[j] : Nat) : Int).toNat * 1) k = true := by rw [Nat.blt_eq]; omega
    have hgx : gA (lg T) (j : Int) = ((T[j] : Nat) : Int) := by rw [gA_at]; exact lg_at (List.getElem?_eq_getElem hj)
    have hjw : jW (j : Int) = ((j + 1 : Nat) : Int) := by unfold jW; rw [IntKind.wrap_i64]; omega
    refine MWp.head cyL_ok _ _ _ _ (l6_4 a o n (castF h) (lg T) k T.length ch i w j) ?_ (l6_PQ a o n (castF h) (lg T) k T.length) ?_
    · simp only [trusted, hgx, j1, j2, j5, x2, x3, x4, x5, ho _ hx, and_self]
    · rw [hjw, hgx, l6Y_c (ho _ hx) hw (hR.inv.lt _)]
      exact l6_inn hk ho hi hR hs hT hTl d (j + 1) _ (by omega) (or_lt hw (or_lt (usN_lt o _) (and_lt _ (hR.inv.lt _)))) he
end
end Go.Proofs.Ytdjmpilegommlaa
namespace Go.Proofs.Ytdjmpilegommlaa
open Go Go.Ly Go.RowKit
section
variable {a o n : Nat → Int} {k : Nat} {Q : Value → Heap → Prop}
theorem l6N_eq (a o n : Nat → Int) (k : Nat) (i : Int) : l6N a o n k i = nxS a o n k i := rfl
structure Ok6 (a o n : Nat → Int) (k : Nat) : Prop where
  le : k ≤ 100
  op : ∀ e, e < k → inb (o e) = true
  ad : ∀ e, e < k → W16 (a e)
  nu : ∀ e, e < k → W16 (n e)
theorem Ok6.rowT (h : Ok6 a o n k) : rowT a o n k = true := rowT_ok h.le
theorem in16_of {x : Int} (h : W16 x) : in16 x = true := by unfold in16; simp [h.1, h.2]
theorem Ok6.n6T (h : Ok6 a o n k) {i : Nat} (hi : i < k) : n6T a o n k i = true := by
  unfold Go.Proofs.Ytdjmpilegommlaa.n6T
  rw [sh_eq, sh_eq, sh_eq, ndG_0, okN_nd _ _ _ (by have := h.le; omega), List.all_eq_true.2 (fun e he => h.op e (List.mem_range.1 he)),
    List.all_eq_true.2 (fun e he => by rw [in16_of (h.ad e (List.mem_range.1 he)), in16_of (h.nu e (List.mem_range.1 he))]; rfl)]
  simp [hi]
theorem l6_out (hK : Ok6 a o n k) {h0 : Nat → Nat} (hend : ∀ h ch, Rel6 a o n k h0 k h ch → MWp Try.prog (mkSt Try.f16 l6K0 none 1 (l6V0 k ch) (l6O a o n (castF h) k)) Q) : ∀ (d i : Nat) (h : Nat → Nat) (ch : Bool), i + d = k → Rel6 a o n k h0 i h ch →
    MWp Try.prog (mkSt Try.f16 l6K1 none 1 (l6V1 k ch i) (l6O a o n (castF h) k)) Q
  | 0, i, h, ch, hd, hR => by
    obtain rfl : i = k := by omega
    refine MWp.head cyL_ok _ _ _ _ (l6_2 a o n (castF h) (castF h) i 0 ch i 0 0) ?_ (l6_PO a o n (castF h) i) (hend h ch hR)
    have e1 : decide ((i : Int) < (i : Nat)) = false := by rw [decide_eq_false_iff_not]; omega
    simp only [trusted, e1, and_self]
  | d + 1, i, h, ch, hd, hR => by
    have hi : i < k := by omega
    obtain ⟨i1, i2, i3, i4⟩ := ix_tests hi
    have next : ∀ h ch, Rel6 a o n k h0 (i + 1) h ch → MWp Try.prog (mkSt Try.f16 l6K1 none 1 (l6V1 k ch ((i + 1 : Nat) : Int)) (l6O a o n (castF h) k)) Q :=
      fun h ch hR => l6_out hK hend d (i + 1) h ch (by omega) hR
    have hl : (l6N a o n k i).1.length = (toL a o n k i).length := by rw [l6N_eq, toL_len]; rfl
    have hp : (fun e => ((l6N a o n k i).1[e]?).getD 0) = lg (toL a o n k i) := by rw [l6N_eq]; exact toL_g a o n k i
    have hop : (l6N a o n k i).2 = opL a o n k i := by rw [l6N_eq]; rfl
    have hbs : bsN a o n k i = bif opL a o n k i then 31 else 0 := by unfold bsN; rw [i4, Bool.true_and]
    have r2 := hK.n6T hi
    have row : ∀ w : Nat, w < 32 → w = bsN a o n k i → MWp Try.prog (mkSt Try.f16 l6K2 none 1 (l6V2 k ch i (sl 2 (l6N a o n k i).1.length) w 0) (l6R a o n (castF h) k i)) Q := by
      intro w hw he
      show MWp Try.prog (mkSt Try.f16 l6K2 none 1 (l6V2 k ch i (sl 2 (l6N a o n k i).1.length) w 0) [some (ndL a o n k), some (inL (castF h) k), some (inL (fun e => ((l6N a o n k i).1[e]?).getD 0) (l6N a o n k i).1.length)]) _
      rw [hp, hl]
      exact l6_inn hK.le hK.op hi hR next (fun e he => toL_in he) (toL_two a o n k i) (toL a o n k i).length 0 w (by omega) hw (by rw [List.drop_zero, he]; rfl)
    have nil : ∀ w : Nat, toL a o n k i = [] → w = bsN a o n k i → MWp Try.prog (mkSt Try.f16 l6K2 none 1 (l6V2 k ch i (.slice none 0 0) w 0) (l6O a o n (castF h) k)) Q := by
      intro w hn he
      exact l6_cmp hK.le hi (by unfold wX; rw [hn]; exact he) hR next (l6_6t a o n (castF h) (castF h) k 0 ch i w 0) (l6_6f a o n (castF h) (castF h) k 0 ch i w 0) rfl
    cases hz : Nat.beq (l6N a o n k i).1.length 0 with
    | false =>
      cases hy : opL a o n k i with
      | true =>
        rw [hy] at hop hbs
        exact MWp.head cyL_ok _ _ _ _ (l6_3ft a o n (castF h) (castF h) k 0 ch i 0 0) (by simp only [trusted, i1, r2, hz, hop, and_self]) (l6_PQ a o n (castF h) _ k _) (row 31 (by decide) (by rw [hbs]; rfl))
      | false =>
        rw [hy] at hop hbs
        exact MWp.head cyL_ok _ _ _ _ (l6_3ff a o n (castF h) (castF h) k 0 ch i 0 0) (by simp only [trusted, i1, r2, hz, hop, and_self]) (l6_PQ a o n (castF h) _ k _) (row 0 (by decide) (by rw [hbs]; rfl))
    | true =>
      have hn : toL a o n k i = [] := List.eq_nil_of_length_eq_zero (by rw [← hl]; exact Nat.eq_of_beq_eq_true hz)
      cases hy : opL a o n k i with
      | true =>
        rw [hy] at hop hbs
        exact MWp.head cyL_ok _ _ _ _ (l6_3tt a o n (castF h) (castF h) k 0 ch i 0 0) (by simp only [trusted, i1, r2, hz, hop, and_self]) (l6_PO a o n (castF h) k) (nil 31 hn (by rw [hbs]; rfl))
      | false =>
        rw [hy] at hop hbs
        exact MWp.head cyL_ok _ _ _ _ (l6_3tf a o n (castF h) (castF h) k 0 ch i 0 0) (by simp only [trusted, i1, r2, hz, hop, and_self]) (l6_PO a o n (castF h) k) (nil 0 hn (by rw [hbs]; rfl))
def Q6 (a o n : Nat → Int) (k : Nat) (v : Value) (K : Heap) : Prop := v = okT 1 k ∧ (∃ g', K.get 1 = some (.fn 1 g' k 3) ∧ ∀ e, e < k → g' e 0 = .int .i64 (livG a o n k e)) ∧ K.lock = 0
theorem l6_done (hk : k ≤ 100) {h : Nat → Nat} (he : ∀ x, x < k → h x = livN a o n k x) : MWp Try.prog (mkSt Try.f16 l6K0 none 1 (l6V0 k false) (l6O a o n (castF h) k)) (Q6 a o n k) := by
  refine (MWp.ends cyL_ok 60 [] (l6_end a o n (castF h) k) trivial).mono ?_
  rintro v K ⟨e1, _, e2, e3⟩
  simp only [List.map_cons, List.map_nil, List.cons.injEq, and_true] at e2
  refine ⟨e1, ⟨_, e2, fun e hx => ?_⟩, e3⟩
  show Value.int .i64 (castF h e) = _
  unfold castF livG
  rw [he e hx]; rfl
theorem l6_all (hK : Ok6 a o n k) : ∀ (N : Nat) (h : Nat → Nat), mu h k ≤ N → Inv6 a o n k h → MWp Try.prog (mkSt Try.f16 l6K0 none 1 (l6V0 k true) (l6O a o n (castF h) k)) (Q6 a o n k) := by
  intro N
  induction N with
  | zero =>
    intro h hm hI
    refine MWp.head cyL_ok _ _ _ _ (l6_1 a o n (castF h) (castF h) k 0 true 0 0 0) trivial (l6_PO a o n (castF h) k) ?_
    refine l6_out hK (h0 := h) (fun h' ch hR => ?_) k 0 h false (by omega) ⟨hI, fun _ => Nat.le_refl _, fun _ => ⟨rfl, fun x hx => by omega⟩, fun h => Bool.noConfusion h⟩
    cases ch with
    | false =>
      obtain ⟨rfl, hf⟩ := hR.same rfl
      exact l6_done hK.le (fun x hx => hR.inv.fin hf hx)
    | true =>
      obtain ⟨x, hx, hlt⟩ := hR.more rfl
      have := mu_lt hR.le hR.inv.lt hlt k hx
      omega
  | succ N ih =>
    intro h hm hI
    refine MWp.head cyL_ok _ _ _ _ (l6_1 a o n (castF h) (castF h) k 0 true 0 0 0) trivial (l6_PO a o n (castF h) k) ?_
    refine l6_out hK (h0 := h) (fun h' ch hR => ?_) k 0 h false (by omega) ⟨hI, fun _ => Nat.le_refl _, fun _ => ⟨rfl, fun x hx => by omega⟩, fun h => Bool.noConfusion h⟩
    cases ch with
    | false =>
      obtain ⟨rfl, hf⟩ := hR.same rfl
      exact l6_done hK.le (fun x hx => hR.inv.fin hf hx)
    | true =>
      obtain ⟨x, hx, hlt⟩ := hR.more rfl
      have := mu_lt hR.le hR.inv.lt hlt k hx
      exact ih h' (by omega) hR.inv
theorem g16 : cyL.fn.get 16 = some Try.f16 := by kernel_rfl
theorem l6_calls (hK : Ok6 a o n k) : LCalls Try.prog 16 [sls 0 k] (mkH [some (ndL a o n k)]) (fun v K => (riN k a o = false ∧ v = badT) ∨ (riN k a o = true ∧ Q6 a o n k v K)) := by
  refine LCalls_of cyL_ok g16 (by kernel_rfl) ?_
  have r4 : rowTr a o n k = true := by
    unfold rowTr; rw [sh_eq, ndG_0, okN_nd _ _ _ (by have := hK.le; omega), List.all_eq_true.2 (fun e he => hK.op e (List.mem_range.1 he))]; simp
  have eB : l6B a o k = !riN k a o := by unfold l6B; rw [sh_eq, sh_eq]
  cases hR : riN k a o with
  | false => exact MWp.out cyL_ok 60 _ (l6_bad a o n k) (by simp only [trusted, r4, eB, hR, Bool.not_false, and_self]) (fun _ => .inl ⟨rfl, rfl⟩)
  | true =>
    have hM : l6M k = true := by have := hK.le; unfold l6M; simp; omega
    refine (MWp.head cyL_ok _ _ _ _ (l6_0 a o n zF zF k 0 false 0 0 0) (by simp only [trusted, r4, eB, hR, hM, Bool.not_true, and_self]) ?_ ?_).mono (fun v K h => .inr ⟨rfl, h⟩)
    · intro y hy z hz
      simp only [List.mem_cons, List.not_mem_nil, or_false] at hy
      rcases hy with rfl | rfl <;> (simp only [Option.some.injEq] at hz; subst hz)
      · exact plain_ndL _ _ _ _
      · intro e j; rcases j with _ | j <;> simp [noBlk, blks, blksL, undef, cellsL]
    · refine MWp.weak (K := mkH (l6O a o n (castF fun _ => 0) k)) (weak_mkH ⟨.inl rfl, zi_L k, trivial⟩ (by simp [big])) ?_
      exact l6_all hK (mu (fun _ => 0) k) (fun _ => 0) (Nat.le_refl _) Inv6.zero
end
theorem l6_nilc : LCalls Try.prog 16 [.slice none 0 0] (mkH []) (fun u _ => EmpT false (.int .i64 0) u) := by
  refine LCalls_of cyL_ok g16 (by kernel_rfl) ?_
  exact MWp.out cyL_ok 200 _ l6_nil trivial (fun _ => .inr ⟨rfl, 0, rfl⟩)
def l6Mk (n : Nat) (G : Nat → Nat → Value) (r : List Value) : PairB := match r with
  | [] => ⟨okN n G && (((List.range n).all fun e => inb (oOf G e)) && (((List.range n).all fun e => in16 (aOf G e) && in16 (nOf G e)) && Nat.ble n 100)), bif riN n (aOf G) (oOf G) then n else 0, livG (aOf G) (oOf G) (nOf G) n, .int .i64 (bif riN n (aOf G) (oOf G) then 0 else 1), !riN n (aOf G) (oOf G)⟩
  | _ => ⟨false, 0, fun _ => 0, .bool false, true⟩
def l6C : Heap → List Value → ER := rowsPairE 3 l6Mk 3
theorem l6_ok {n : Nat} {G : Nat → Nat → Value} (hg : (l6Mk n G []).ok = true) : Ok6 (aOf G) (oOf G) (nOf G) n ∧ ∀ e j, e < n → j < 3 → G e j = ndG (aOf G) (oOf G) (nOf G) e j := by
  unfold l6Mk at hg
  simp only [Bool.and_eq_true, List.all_eq_true, List.mem_range] at hg
  obtain ⟨h0, h1, h2, h3⟩ := hg
  obtain ⟨k1, k2⟩ := okN_eq h0
  have b16 : ∀ {x : Int}, in16 x = true → W16 x := fun h => by simpa [in16, W16] using h
  exact ⟨⟨Nat.le_of_ble_eq_true h3, h1, fun e he => b16 (h2 e he).1, fun e he => b16 (h2 e he).2⟩, k2⟩
theorem l6C_good (H : Heap) (args : List Value) : HGood Try.prog 16 args H (l6C H args) := by
  refine rowsPairE_good (fun n G r => ?_) (fun n G r hp hg h0 => ?_) (fun n G r hp hg h0 => ?_) (fun G r hp hg => ?_) H args
  · unfold l6Mk; split <;> simp [plain]
  · rcases r with _ | ⟨x, r⟩
    · obtain ⟨hK, h2⟩ := l6_ok hg
      have hL := LCalls.argEq h2 (l6_calls hK)
      simp only [l6Mk] at h0 ⊢
      cases hr : riN n (aOf G) (oOf G) with
      | false => rw [hr] at h0; exact absurd rfl h0
      | true =>
        refine ⟨1, hL.mono ?_⟩
        rintro u K (⟨hb, _⟩ | ⟨_, q1, q2, q3⟩)
        · rw [hr] at hb; cases hb
        · exact ⟨q1, q2, q3⟩
    · unfold l6Mk at hg; cases hg
  · rcases r with _ | ⟨x, r⟩
    · obtain ⟨hK, h2⟩ := l6_ok hg
      have hL := LCalls.argEq h2 (l6_calls hK)
      simp only [l6Mk] at h0 ⊢
      cases hr : riN n (aOf G) (oOf G) with
      | false =>
        refine hL.mono ?_
        rintro u K (⟨_, rfl⟩ | ⟨hb, _⟩)
        · exact .inl ⟨rfl, rfl⟩
        · rw [hr] at hb; cases hb
      | true =>
        rw [hr] at h0
        have h0 : n = 0 := h0
        refine hL.mono ?_
        rintro u K (⟨hb, _⟩ | ⟨_, q1, _⟩)
        · rw [hr] at hb; cases hb
        · exact .inr ⟨rfl, 1, by rw [q1, h0]; rfl⟩
    · unfold l6Mk at hg; cases hg
  · rcases r with _ | ⟨x, r⟩
    · exact ⟨rfl, l6_nilc⟩
    · unfold l6Mk at hg; cases hg
end Go.Proofs.Ytdjmpilegommlaa
namespace Go.Proofs.Ytdjmpilegommlaa
open Go Go.Ly Go.RowKit
def eq17H (n m : Nat) (f g : Nat → Int) : List (Option LO) := [some (ints .i64 f n), some (ints .i64 g m)]
def eq17D : St := Ly.start Try.f17 [] H0
def eq17K : List KI := ((Ly.run env.bare 22 [] (Ly.start Try.f17 [sl 0 0, sl 1 0] (mkH (eq17H 0 0 (fun _ => 0) (fun _ => 0))))).st eq17D).top.k
def eq17V (n m : Nat) (i : Int) : List Value := slots 26 [(0, sl 0 n), (1, sl 1 m), (5, .int .i64 i)]
theorem eq17get : env.bare.fn.get 17 = some Try.f17 := by kernel_rfl
theorem eq170 (n m : Nat) (f g : Nat → Int) : headAt [0, 1, 5] [0, 1] eq17D (Ly.run env.bare 22 [(0, false)] (Ly.start Try.f17 [sl 0 n, sl 1 m] (mkH (eq17H n m f g)))) = (true, [((n : Int) != (m : Int), false)], true, (Try.f17, eq17K, none, 2), eq17V n m 0, eq17H n m f g) := by kernel_rfl
theorem eq17N (n m : Nat) (f g : Nat → Int) : (Ly.run env.bare 200 [(0, true)] (Ly.start Try.f17 [sl 0 n, sl 1 m] (mkH (eq17H n m f g)))).end? = some ([((n : Int) != (m : Int), true)], .bool false, mkH (eq17H n m f g)) := by kernel_rfl
theorem eq17I (n m : Nat) (f g : Nat → Int) (i : Int) : headAt [0, 1, 5] [0, 1] eq17D (Ly.run env.bare 23 [(0, true), (0, true), (0, true), (0, true), (0, true), (0, false)] (mkSt Try.f17 eq17K none 2 (eq17V n m i) (eq17H n m f g))) = (true, [(decide (i < (n : Int)), true), (decide (0 ≤ i) && decide (i < (n : Int)), true), (Nat.blt (0 + i.toNat * 1) n, true), (decide (0 ≤ i) && decide (i < (m : Int)), true), (Nat.blt (0 + i.toNat * 1) m, true), (f (0 + i.toNat * 1) != g (0 + i.toNat * 1), false)], true, (Try.f17, eq17K, none, 2), eq17V n m (IntKind.i64.wrap (i + 1)), eq17H n m f g) := by kernel_rfl
theorem eq17T (n m : Nat) (f g : Nat → Int) (i : Int) : (Ly.run env.bare 200 [(0, false)] (mkSt Try.f17 eq17K none 2 (eq17V n m i) (eq17H n m f g))).out? = some ([(decide (i < (n : Int)), false)], .bool true) := by kernel_rfl
theorem eq17E (n m : Nat) (f g : Nat → Int) (i : Int) : (Ly.run env.bare 200 [(0, true), (0, true), (0, true), (0, true), (0, true), (0, true)] (mkSt Try.f17 eq17K none 2 (eq17V n m i) (eq17H n m f g))).out? = some ([(decide (i < (n : Int)), true), (decide (0 ≤ i) && decide (i < (n : Int)), true), (Nat.blt (0 + i.toNat * 1) n, true), (decide (0 ≤ i) && decide (i < (m : Int)), true), (Nat.blt (0 + i.toNat * 1) m, true), (f (0 + i.toNat * 1) != g (0 + i.toNat * 1), true)], .bool false) := by kernel_rfl
theorem eq17P (n m : Nat) (f g : Nat → Int) : ∀ o ∈ eq17H n m f g, ∀ x, o = some x → plainO x := by
  intro o ho x hx
  simp only [eq17H, List.mem_cons, List.not_mem_nil, or_false] at ho
  rcases ho with rfl | rfl <;> (simp only [Option.some.injEq] at hx; subst hx; exact plain_ints)
theorem eq17loop (n : Nat) (f g : Nat → Int) (hn : n ≤ 9223372036854775807) : ∀ (d : Nat) (i : Int), 0 ≤ i → i ≤ n → ((n : Int) - i).toNat = d → (∀ e : Nat, (e : Int) < i → f e = g e) →
    MWp Try.prog (mkSt Try.f17 eq17K none 2 (eq17V n n i) (eq17H n n f g)) (fun v _ => v = .bool (eqU n f g))
  | 0, i, h0, h1, hd, he => by
    have hi : i = n := by omega
    refine MWp.out (Env.bare_ok envOk) 200 _ (eq17T n n f g i) (by simp [trusted]; omega) ?_
    intro _; rw [eqU_true (fun e h => he e (by omega))]
  | d + 1, i, h0, h1, hd, he => by
    have hi : i < n := by omega
    have ht : 0 + i.toNat * 1 = i.toNat := by omega
    have hlt : Nat.blt i.toNat n = true := by rw [Nat.blt_eq]; omega
    by_cases hf : f i.toNat = g i.toNat
    · refine MWp.head (Env.bare_ok envOk) _ _ _ _ (eq17I n n f g i) (by rw [ht]; simp [trusted, hf, hlt, hi, h0]) (eq17P n n f g) ?_
      have hw : IntKind.i64.wrap (i + 1) = i + 1 := by rw [IntKind.wrap_i64]; omega
      rw [hw]
      refine eq17loop n f g hn d (i + 1) (by omega) (by omega) (by omega) (fun e h => ?_)
      by_cases h2 : (e : Int) = i
      · have : e = i.toNat := by omega
        rw [this]; exact hf
      · exact he e (by omega)
    · refine MWp.out (Env.bare_ok envOk) 200 _ (eq17E n n f g i) (by rw [ht]; simp [trusted, hf, hlt, hi, h0]) ?_
      intro _; rw [eqU_false (e := i.toNat) (by omega) hf]
theorem eq17SS (n m : Nat) (f g : Nat → Int) (hn : n ≤ 9223372036854775807) : LCalls Try.prog 17 [sl 0 n, sl 1 m] (mkH [some (ints .i64 f n), some (ints .i64 g m)]) (fun u _ => u = .bool (Nat.beq n m && eqU n f g)) := by
  refine LCalls_of (Env.bare_ok envOk) eq17get (by kernel_rfl) ?_
  by_cases h : n = m
  · subst h
    refine MWp.head (Env.bare_ok envOk) _ _ _ _ (eq170 n n f g) (by simp [trusted]) (eq17P n n f g) ?_
    refine (eq17loop n f g hn _ 0 (by omega) (by omega) rfl (fun e h => by omega)).mono ?_
    rintro v H rfl
    simp
  · refine MWp.done (Env.bare_ok envOk) 200 _ (eq17N n m f g) (by simp [trusted]; omega) ?_
    have : Nat.beq n m = false := by
      cases hb : Nat.beq n m with
      | false => rfl
      | true => exact absurd (Nat.eq_of_beq_eq_true hb) h
    rw [this]; rfl
theorem eq17a (m : Nat) (q : Nat → Int) (b : Bool) : (Ly.run env.bare 200 [(0, b)] (Ly.start Try.f17 [.slice none 0 0, sl 0 m] (mkH [some (ints .i64 q m)]))).out? = some ([((0 : Int) != (m : Int), b)], .bool (!b)) := by cases b <;> kernel_rfl
theorem eq17NS (m : Nat) (q : Nat → Int) : LCalls Try.prog 17 [.slice none 0 0, sl 0 m] (mkH [some (ints .i64 q m)]) (fun u _ => u = .bool (Nat.beq 0 m)) := by
  by_cases h : m = 0
  · subst h
    exact LCalls_trust (Env.bare_ok envOk) 200 _ eq17get (by kernel_rfl) (eq17a 0 q false) (by simp [trusted])
  · have hb : Nat.beq 0 m = false := by rcases m with _ | m; exact absurd rfl h; rfl
    rw [hb]
    exact LCalls_trust (Env.bare_ok envOk) 200 _ eq17get (by kernel_rfl) (eq17a m q true) (by simp [trusted]; omega)
theorem eq17b (n : Nat) (q : Nat → Int) : (Ly.run env.bare 200 [(0, true)] (Ly.start Try.f17 [sl 0 n, .slice none 0 0] (mkH [some (ints .i64 q n)]))).out? = some ([((n : Int) != 0, true)], .bool false) := by kernel_rfl
theorem eq17c (q : Nat → Int) : (Ly.run env.bare 200 [] (Ly.start Try.f17 [sl 0 0, .slice none 0 0] (mkH [some (ints .i64 q 0)]))).out? = some ([], .bool true) := by kernel_rfl
theorem eq17SN (n : Nat) (p : Nat → Int) : LCalls Try.prog 17 [sl 0 n, .slice none 0 0] (mkH [some (ints .i64 p n)]) (fun u _ => u = .bool (Nat.beq n 0)) := by
  by_cases h : n = 0
  · subst h
    exact LCalls_trust (Env.bare_ok envOk) 200 _ eq17get (by kernel_rfl) (eq17c p) trivial
  · have hb : Nat.beq n 0 = false := by rcases n with _ | n; exact absurd rfl h; rfl
    rw [hb]
    exact LCalls_trust (Env.bare_ok envOk) 200 _ eq17get (by kernel_rfl) (eq17b n p) (by simp [trusted]; omega)
theorem eq17NN : LCalls Try.prog 17 [.slice none 0 0, .slice none 0 0] (mkH []) (fun u _ => u = .bool true) :=
  LCalls_trust (v := .bool true) (Env.bare_ok envOk) 200 [] eq17get (by kernel_rfl) (t := []) (by kernel_rfl) trivial
theorem eq17con : ∀ args ρ args' w H, VRL ρ args args' → Rep ρ H w → ConGood Try.prog ρ 17 args' w (conEq .i64 H args) := conEq_good eq17SS eq17NS eq17SN eq17NN
end Go.Proofs.Ytdjmpilegommlaa
namespace Go.Proofs.Ytdjmpilegommlaa
open Go Go.Ly Go.RowKit
def cyF : Ctx := (cxU.withH 16 l6C).withC 17 (conEq .i64)
theorem cyF_ok : cyF.Ok Try.prog := (cxU_ok.withH l6C_good).withC eq17con
def lfS (a o n : Nat → Int) (k : Nat) : St := Ly.start Try.f4 [sls 0 k] (mkH [some (ndL a o n k)])
def lfR (a o : Nat → Int) (k : Nat) : Bool := riN k (sh a) (sh o)
def lfM (a o : Nat → Int) (k : Nat) : Nat := bif lfR a o k then k else 0
def lfX (a o : Nat → Int) (k : Nat) : Int := bif lfR a o k then 0 else 1
def lfG (a o n : Nat → Int) (k : Nat) : Nat → Int := livG (sh a) (sh o) (sh n) k
def lfT (a o n : Nat → Int) (k : Nat) : Bool := Nat.ble (0 + k) k && (okN k (fun e x => ndG a o n (0 + e) x) && (((List.range k).all fun e => inb (sh o e)) && (((List.range k).all fun e => in16 (sh a e) && in16 (sh n e)) && Nat.ble k 100)))
def lfE (a o n : Nat → Int) (k : Nat) : Bool := Nat.ble (0 + lsM a o k) (lsM a o k) && (Nat.ble (0 + lfM a o k) (lfM a o k) && (((List.range (lsM a o k)).all fun e => isK .i64 (.int .i64 (lsG a o n k (0 + e)))) && (((List.range (lfM a o k)).all fun e => isK .i64 (.int .i64 (lfG a o n k (0 + e)))) && Nat.ble (lsM a o k) 9223372036854775807)))
def lfQ (a o n : Nat → Int) (k : Nat) : Bool := Nat.beq (lsM a o k) (lfM a o k) && eqU (lsM a o k) (fun e => lsG a o n k (0 + e)) (fun e => lfG a o n k (0 + e))
theorem lf_A (a o n : Nat → Int) (k : Nat) : (Ly.run cyF 9000 [(0, false), (0, true), (0, false), (0, true), (0, false), (0, true), (0, false), (0, true), (0, true), (3, true)] (lfS a o n k)).out? = some (lsTT a o n k [(Nat.beq (lsM a o k) 0, false), (lfT a o n k, true), (Nat.beq (lfM a o k) 0, false), (lfE a o n k, true), (lfQ a o n k == true, true), ((lsX a o k == lfX a o k) == true, true)], .bool true) := by kernel_rfl
theorem lf_B (a o n : Nat → Int) (k : Nat) : (Ly.run cyF 9000 [(0, false), (0, true), (0, false), (0, true), (0, true), (0, true), (0, true), (0, true), (0, true), (5, true)] (lfS a o n k)).out? = some (lsTT a o n k [(Nat.beq (lsM a o k) 0, true), (!lsR a o k, true), (lfT a o n k, true), (Nat.beq (lfM a o k) 0, true), (!lfR a o k, true), ((lsX a o k == lfX a o k) == true, true)], .bool true) := by kernel_rfl
theorem lf_Z (a o n : Nat → Int) (k : Nat) : (Ly.run cyF 9000 [(0, true)] (lfS a o n k)).out? = some ([(decide ((40 : Int) < k), true)], .bool true) := by kernel_rfl
def emC (H : Heap) (args : List Value) : ER := match args with
  | [.slice (some _) 0 _, .slice (some _) 0 _] => .val (.bool true)
  | _ => .no
theorem em_run : (Ly.run env.bare 200 [] (Ly.start Try.f17 [sl 0 0, sl 1 0] (mkH []))).out? = some ([], .bool true) := by kernel_rfl
theorem em_VR {ρ ρ1 : Ren} {a : Addr} {c i : Nat} {x' : Value} (h : VR ρ (.slice (some a) 0 c) x') : VR ρ1 (sl i 0) x' := by
  simp only [sl, VR] at h ⊢
  obtain ⟨a', c', rfl, h1, h2, h3⟩ := h
  exact ⟨a', c', rfl, h1, fun e => absurd rfl e, fun e => absurd rfl e⟩
theorem emC_good (args : List Value) (ρ : Ren) (args' : List Value) (w : World) (H : Heap) (ha : VRL ρ args args') (hr : Rep ρ H w) : ConGood Try.prog ρ 17 args' w (emC H args) := by
  unfold emC
  haveI := hr.fix.w
  split
  · simp only [VRL] at ha
    obtain ⟨x', _, hx, ⟨y', _, hy, rfl, rfl⟩, rfl⟩ := ha
    exact ⟨_, VR_bool, calls_ro (ρ := rowsRen []) (LCalls_trust (Env.bare_ok envOk) 200 [] eq17get (by kernel_rfl) em_run trivial) (by simp [plain]) (by simp only [VRL]; exact ⟨x', _, em_VR hx, ⟨y', [], em_VR hy, rfl, rfl⟩, rfl⟩) (rows_rep (rs := []) rfl (by simp) (by simp) (by simp)) (fun _ => rfl)⟩
  · exact trivial
def cyE : Ctx := (cxU.withH 16 l6C).withC 17 emC
theorem cyE_ok : cyE.Ok Try.prog := (cxU_ok.withH l6C_good).withC emC_good
theorem lf_K0 (a o n : Nat → Int) : (Ly.run cyE 9000 [] (lfS a o n 0)).out? = some ([], .bool true) := by kernel_rfl
theorem lf_nil : (Ly.run cyE 9000 [] (Ly.start Try.f4 [.slice none 0 0] (mkH []))).out? = some ([], .bool true) := by kernel_rfl
theorem lfg4 : cyF.fn.get 4 = some Try.f4 := by kernel_rfl
theorem lfg4e : cyE.fn.get 4 = some Try.f4 := by kernel_rfl
theorem eqU_refl (n : Nat) (f : Nat → Int) : eqU n f f = true := eqU_true (fun _ _ => rfl)
theorem isK_all (n : Nat) (f : Nat → Int) : ((List.range n).all fun e => isK .i64 (.int .i64 (f e))) = true := List.all_eq_true.2 (fun e _ => rfl)
theorem flive_calls (a o n : Nat → Int) (k : Nat) (ho : ∀ e, e < k → inb (o e) = true) (ha : ∀ e, e < k → W16 (a e)) (hn : ∀ e, e < k → W16 (n e)) : LCalls Try.prog 4 [sls 0 k] (mkH [some (ndL a o n k)]) (fun u _ => u = .bool true) := by
  by_cases hk0 : k = 0
  · subst hk0
    refine LCalls_of cyE_ok lfg4e (by kernel_rfl) ?_
    exact MWp.out cyE_ok 9000 _ (lf_K0 a o n) trivial (fun _ => rfl)
  refine LCalls_of cyF_ok lfg4 (by kernel_rfl) ?_
  show MWp Try.prog (lfS a o n k) _
  by_cases h40 : (40 : Int) < k
  · exact MWp.out cyF_ok 9000 _ (lf_Z a o n k) (by simp only [trusted, decide_eq_true h40, and_self]) (fun _ => rfl)
  have hk : k ≤ 100 := by omega
  have hb : Nat.beq k 0 = false := Bool.eq_false_iff.2 fun h => hk0 (Nat.eq_of_beq_eq_true h)
  have r1 : rowT a o n k = true := rowT_ok hk
  have r3 : lsT1 a o n k = true := by
    unfold lsT1; rw [sh_eq, sh_eq, sh_eq, sh_eq, ndG_0, okN_nd _ _ _ (by omega), List.all_eq_true.2 (fun e he => ho e (List.mem_range.1 he)), show Nat.ble k 100 = true from Nat.ble_eq_true_of_le hk]; simp
  have r4 : lfT a o n k = true := by
    unfold lfT; rw [sh_eq, sh_eq, sh_eq, ndG_0, okN_nd _ _ _ (by omega), List.all_eq_true.2 (fun e he => ho e (List.mem_range.1 he)),
      List.all_eq_true.2 (fun e he => by rw [in16_of (ha e (List.mem_range.1 he)), in16_of (hn e (List.mem_range.1 he))]; rfl), show Nat.ble k 100 = true from Nat.ble_eq_true_of_le hk]; simp
  have eR : lsR a o k = riN k a o := by unfold lsR; rw [sh_eq, sh_eq, sh_eq, sh_eq]
  have eR2 : lfR a o k = riN k a o := by unfold lfR; rw [sh_eq, sh_eq]
  have h4 : decide ((40 : Int) < k) = false := decide_eq_false h40
  cases hR : riN k a o with
  | false =>
    have eM : lsM a o k = 0 := by unfold lsM; rw [eR, hR]; rfl
    have eM2 : lfM a o k = 0 := by unfold lfM; rw [eR2, hR]; rfl
    have eX : ((lsX a o k == lfX a o k) == true) = true := by unfold lsX lfX; rw [eR, eR2, hR]; rfl
    exact MWp.out cyF_ok 9000 _ (lf_B a o n k) (by simp only [lsTT, trusted, h4, r1, hb, r3, r4, eM, eM2, eX, eR, eR2, hR, Nat.beq_refl, Bool.not_false, and_self]) (fun _ => rfl)
  | true =>
    have eM : lsM a o k = k := by unfold lsM; rw [eR, hR]; rfl
    have eM2 : lfM a o k = k := by unfold lfM; rw [eR2, hR]; rfl
    have eX : ((lsX a o k == lfX a o k) == true) = true := by unfold lsX lfX; rw [eR, eR2, hR]; rfl
    have eG : lsG a o n k = livG a o n k := by unfold lsG; rw [sh_eq, sh_eq, sh_eq, sh_eq, sh_eq, sh_eq]
    have eG2 : lfG a o n k = livG a o n k := by unfold lfG; rw [sh_eq, sh_eq, sh_eq]
    have eE : lfE a o n k = true := by
      unfold lfE
      rw [eM, eM2, isK_all k (fun e => lsG a o n k (0 + e)), isK_all k (fun e => lfG a o n k (0 + e)), show Nat.ble (0 + k) k = true from Nat.ble_eq_true_of_le (by omega), show Nat.ble k 9223372036854775807 = true from Nat.ble_eq_true_of_le (by omega)]; rfl
    have eQ : (lfQ a o n k == true) = true := by
      unfold lfQ
      rw [eM, eM2, eG, eG2, eqU_refl, Nat.beq_refl]; rfl
    exact MWp.out cyF_ok 9000 _ (lf_A a o n k) (by simp only [lsTT, trusted, h4, r1, hb, r3, r4, eM, eM2, eX, eE, eQ, and_self]) (fun _ => rfl)
theorem flive_nil : LCalls Try.prog 4 [.slice none 0 0] (mkH []) (fun u _ => u = .bool true) := by
  refine LCalls_of cyE_ok lfg4e (by kernel_rfl) ?_
  exact MWp.out cyE_ok 9000 _ lf_nil trivial (fun _ => rfl)
theorem ck_node2 {W : World} {v : Value} (h : CkOk W (.slice [.int .u16, .int .u8, .int .u16]) v) : v = .slice none 0 0 ∨ ∃ (k : Nat) (a o n : Nat → Int) (p : Option Plc), RealRows W 3 (ndG a o n) k v p ∧ (∀ e, e < k → inb (o e) = true) ∧ (∀ e, e < k → W16 (a e)) ∧ (∀ e, e < k → W16 (n e)) := by
  rcases ck_rows (by rfl) (by decide) h with rfl | ⟨k, F, p, hr, hc, _⟩
  · exact .inl rfl
  · have hF : ∀ e, e < k → ∃ x y u, F e = [.int .u16 x, .int .u8 y, .int .u16 u] ∧ inb y = true ∧ W16 x ∧ W16 u := by
      intro e he
      have h1 := hc e he
      simp only [CksOk, CkOk] at h1
      obtain ⟨_, _, e1, ⟨x, rfl, hx⟩, _, _, rfl, ⟨y, rfl, hy⟩, _, _, rfl, ⟨u, rfl, hu⟩, rfl⟩ := h1
      have hy := bounds_u8 hy
      have hx := bounds_u16 hx
      have hu := bounds_u16 hu
      exact ⟨x, y, u, e1, by simp [inb]; omega, by unfold W16; omega, by unfold W16; omega⟩
    refine .inr ⟨k, fun e => intV (((F e)[0]?).getD undef), fun e => intV (((F e)[1]?).getD undef), fun e => intV (((F e)[2]?).getD undef), p, hr.congr (fun e j he hj => ?_), fun e he => ?_, fun e he => ?_, fun e he => ?_⟩
    · obtain ⟨x, y, u, e1, _⟩ := hF e he
      have hj : j < 3 := hj
      simp only [ndG, e1]
      have : j = 0 ∨ j = 1 ∨ j = 2 := by omega
      rcases this with rfl | rfl | rfl <;> rfl
    · obtain ⟨x, y, u, e1, b1, _⟩ := hF e he
      simp only [e1]; exact b1
    · obtain ⟨x, y, u, e1, _, b1, _⟩ := hF e he
      simp only [e1]; exact b1
    · obtain ⟨x, y, u, e1, _, _, b1⟩ := hF e he
      simp only [e1]; exact b1
theorem flive_walk (W : World) (v0 : Value) (h0 : CkOk W (.slice [.int .u16, .int .u8, .int .u16]) v0) : Calls Try.prog 4 #[v0] W fun e W' => e = .returned (.bool true) ∧ Below W.heap.size W W' := by
  rcases ck_node2 h0 with rfl | ⟨k, a, o, n, pl, hr, hb, hba, hbn⟩
  · exact calls_ro (ρ := rowsRen []) flive_nil rfl (by simp [VRL, VR]) (rows_rep (rs := []) rfl (by simp) (by simp) (by simp)) (fun _ => rfl)
  · exact calls_ro (ρ := rowsRenW [pl] (fun _ => 3)) (flive_calls a o n k hb hba hbn) rfl
      (by simp only [VRL]; exact ⟨v0, _, VR_sls (slW_VR hr (by simp)), rfl, rfl⟩)
      (rowsW_rep (l := [pl]) (rs := [(3, ndG a o n, k)]) rfl (by simp) (by
        intro j q hq
        rcases j with _ | j
        · simp at hq; exact hr.low q hq
        · simp at hq) (by
        intro j k2 g2 n2 h0
        rcases j with _ | j
        · simp at h0; obtain ⟨rfl, rfl, rfl⟩ := h0
          refine ⟨rfl, fun e j he hj => ⟨hr.one e j he hj, ?_⟩⟩
          obtain ⟨q, h3, h4⟩ := hr.cell e j he hj
          exact ⟨q, by simp [h3], h4⟩
        · simp at h0)) (fun _ => rfl)
end Go.Proofs.Ytdjmpilegommlaa
end
