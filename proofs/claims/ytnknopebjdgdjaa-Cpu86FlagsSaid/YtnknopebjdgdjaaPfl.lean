/- Part 12 of the texts that the law needs, laid together. By program (pack.py). -/
import Derived.Test.YtnknopebjdgdjaaPfc
import Derived.Test.YtnknopebjdgdjaaPfd
import Derived.Test.YtnknopebjdgdjaaPfh
import Derived.Test.YtnknopebjdgdjaaPfk
import Derived.KernelRfl
import Derived.Laws.BitsLemmas
set_option linter.unusedVariables false
set_option linter.unusedSimpArgs false
noncomputable section
namespace Go.Proofs.Ytnknopebjdgdjaa.Isa
open Go Go.Ly Go.RowKit
def h6T (d s : Int) : RT Hd := .b 1 (q4 s 0) (.b 10 (q0 d 0) (.t 6 (q0 d 0) (.t 3 (q2 d 20) r0)) (.f 6 (q0 d 0) (.b 3 (q2 d 20) r0 r0))) (.b 7 (q3 (wd d) 0) (.b 8 (q1 (wd d) 16) (.b 31 (q1 (wd d) (wd s)) (.t 3 (in7 (nm s) && in7 (nm d)) (r2 33 (192 + nm s * 8 + nm d) 0)) (.f 1 (q0 (wd d) 8) (.b 3 (q0 d 1) (.b 2 (q1 s 20) (r1 36 1) (.f 1 (q0 (wd d) 8) r0)) (.f 4 (q0 (wd d) 8) r0)))) (.b 31 (q1 (wd d) (wd s)) (.t 3 (in7 (nm s) && in7 (nm d)) (r2 32 (192 + nm s * 8 + nm d) 0)) (.b 1 (q0 (wd d) 8) (.b 2 (q1 s 17) (.t 2 (in7 (nm d) && true) (r2 34 (nm d * 8 + 7) 0)) (.b 0 (q0 d 1) (.b 2 (q1 s 20) (r1 36 1) (.t 1 (q0 (wd d) 8) (.f 2 (q1 s 20) r0))) (.t 4 (q0 (wd d) 8) (.b 2 (q1 s 20) (.t 1 (true && in7 (nm d)) (r2 128 (224 + nm d) 1)) r0)))) (.b 3 (q0 d 1) (.b 2 (q1 s 20) (r1 36 1) (.f 1 (q0 (wd d) 8) r0)) (.f 4 (q0 (wd d) 8) r0))))) (.f 6 (q1 (wd d) 16) (.f 33 (q0 (wd d) 8) (.b 3 (q0 d 1) (.b 2 (q1 s 20) (r1 36 1) (.f 1 (q0 (wd d) 8) r0)) (.f 4 (q0 (wd d) 8) r0)))))
def h7T (d s : Int) : RT Hd := .b 1 (q4 s 0) (.b 10 (q0 d 0) (.t 6 (q0 d 0) (.t 3 (q2 d 20) r0)) (.f 6 (q0 d 0) (.b 3 (q2 d 20) r0 r0))) (.b 7 (q3 (wd d) 0) (.b 8 (q1 (wd d) 16) (.b 31 (q1 (wd d) (wd s)) (.t 3 (in7 (nm s) && in7 (nm d)) (r2 41 (192 + nm s * 8 + nm d) 0)) (.f 1 (q0 (wd d) 8) (.b 3 (q0 d 1) (.b 2 (q1 s 20) (r1 44 1) (.f 1 (q0 (wd d) 8) r0)) (.f 4 (q0 (wd d) 8) r0)))) (.b 31 (q1 (wd d) (wd s)) (.t 3 (in7 (nm s) && in7 (nm d)) (r2 40 (192 + nm s * 8 + nm d) 0)) (.b 1 (q0 (wd d) 8) (.b 2 (q1 s 17) (.t 2 (in7 (nm d) && true) (r2 42 (nm d * 8 + 7) 0)) (.b 0 (q0 d 1) (.b 2 (q1 s 20) (r1 44 1) (.t 1 (q0 (wd d) 8) (.f 2 (q1 s 20) r0))) (.t 4 (q0 (wd d) 8) (.b 2 (q1 s 20) (.t 1 (true && in7 (nm d)) (r2 128 (232 + nm d) 1)) r0)))) (.b 3 (q0 d 1) (.b 2 (q1 s 20) (r1 44 1) (.f 1 (q0 (wd d) 8) r0)) (.f 4 (q0 (wd d) 8) r0))))) (.f 6 (q1 (wd d) 16) (.f 33 (q0 (wd d) 8) (.b 3 (q0 d 1) (.b 2 (q1 s 20) (r1 44 1) (.f 1 (q0 (wd d) 8) r0)) (.f 4 (q0 (wd d) 8) r0)))))
def h8T (d s : Int) : RT Hd := .b 1 (q4 s 0) (.b 10 (q0 d 0) (.t 6 (q0 d 0) (.t 3 (q2 d 20) r0)) (.f 6 (q0 d 0) (.b 3 (q2 d 20) r0 r0))) (.b 7 (q3 (wd d) 0) (.b 8 (q1 (wd d) 16) (.b 31 (q1 (wd d) (wd s)) (.t 3 (in7 (nm s) && in7 (nm d)) (r2 49 (192 + nm s * 8 + nm d) 0)) (.f 1 (q0 (wd d) 8) (.b 3 (q0 d 1) (.b 2 (q1 s 20) (r1 52 1) (.f 1 (q0 (wd d) 8) r0)) (.f 4 (q0 (wd d) 8) r0)))) (.b 31 (q1 (wd d) (wd s)) (.t 3 (in7 (nm s) && in7 (nm d)) (r2 48 (192 + nm s * 8 + nm d) 0)) (.b 1 (q0 (wd d) 8) (.b 2 (q1 s 17) (.t 2 (in7 (nm d) && true) (r2 50 (nm d * 8 + 7) 0)) (.b 0 (q0 d 1) (.b 2 (q1 s 20) (r1 52 1) (.t 1 (q0 (wd d) 8) (.f 2 (q1 s 20) r0))) (.t 4 (q0 (wd d) 8) (.b 2 (q1 s 20) (.t 1 (true && in7 (nm d)) (r2 128 (240 + nm d) 1)) r0)))) (.b 3 (q0 d 1) (.b 2 (q1 s 20) (r1 52 1) (.f 1 (q0 (wd d) 8) r0)) (.f 4 (q0 (wd d) 8) r0))))) (.f 6 (q1 (wd d) 16) (.f 33 (q0 (wd d) 8) (.b 3 (q0 d 1) (.b 2 (q1 s 20) (r1 52 1) (.f 1 (q0 (wd d) 8) r0)) (.f 4 (q0 (wd d) 8) r0)))))
def h9T (d s : Int) : RT Hd := .b 1 (q4 s 0) (.b 10 (q0 d 0) (.t 6 (q0 d 0) (.t 3 (q2 d 20) r0)) (.f 6 (q0 d 0) (.b 3 (q2 d 20) r0 r0))) (.b 7 (q3 (wd d) 0) (.b 8 (q1 (wd d) 16) (.b 31 (q1 (wd d) (wd s)) (.t 3 (in7 (nm s) && in7 (nm d)) (r2 57 (192 + nm s * 8 + nm d) 0)) (.f 1 (q0 (wd d) 8) (.b 3 (q0 d 1) (.b 2 (q1 s 20) (r1 60 1) (.f 1 (q0 (wd d) 8) r0)) (.f 4 (q0 (wd d) 8) r0)))) (.b 31 (q1 (wd d) (wd s)) (.t 3 (in7 (nm s) && in7 (nm d)) (r2 56 (192 + nm s * 8 + nm d) 0)) (.b 1 (q0 (wd d) 8) (.b 2 (q1 s 17) (.t 2 (in7 (nm d) && true) (r2 58 (nm d * 8 + 7) 0)) (.b 0 (q0 d 1) (.b 2 (q1 s 20) (r1 60 1) (.t 1 (q0 (wd d) 8) (.f 2 (q1 s 20) r0))) (.t 4 (q0 (wd d) 8) (.b 2 (q1 s 20) (.t 1 (true && in7 (nm d)) (r2 128 (248 + nm d) 1)) r0)))) (.b 3 (q0 d 1) (.b 2 (q1 s 20) (r1 60 1) (.f 1 (q0 (wd d) 8) r0)) (.f 4 (q0 (wd d) 8) r0))))) (.f 6 (q1 (wd d) 16) (.f 33 (q0 (wd d) 8) (.b 3 (q0 d 1) (.b 2 (q1 s 20) (r1 60 1) (.f 1 (q0 (wd d) 8) r0)) (.f 4 (q0 (wd d) 8) r0)))))
def h10T (d s : Int) : RT Hd := .b 1 (q4 s 0) (.b 14 (q1 d 17) (r2 254 7 0) (.b 3 (q1 (wd d) 8) (.t 1 (true && in7 (nm d)) (r2 254 (192 + nm d) 0)) (.b 3 (q1 (wd d) 16) (r1 (bits .or .u8 64 (nm d)) 0) (.b 3 (q2 (wd d) 0) (.t 2 (true && in7 (nm d)) (r2 (bits .or .u8 208 (IntKind.u8.wrap (IntKind.i64.wrap ((wd d).tdiv 16)))) (240 + nm d) 0)) r0)))) (.b 7 (q3 (wd d) 0) (.b 8 (q1 (wd d) 16) r0 r0) (.f 6 (q1 (wd d) 16) r0))
set_option maxHeartbeats 100000000 in
set_option maxRecDepth 100000 in
theorem hg2 (d s : Int) : HdCall 6 d s ∧ HdCall 7 d s ∧ HdCall 8 d s ∧ HdCall 9 d s ∧ HdCall 10 d s := by
  refine ⟨hd_of (T := h6T d s) (by kernel_rfl) ?_, hd_of (T := h7T d s) (by kernel_rfl) ?_, hd_of (T := h8T d s) (by kernel_rfl) ?_, hd_of (T := h9T d s) (by kernel_rfl) ?_, hd_of (T := h10T d s) (by kernel_rfl) ?_⟩
  all_goals first | unfold h6T | unfold h7T | unfold h8T | unfold h9T | unfold h10T
  repeat' with_reducible first | refine RT.sl ?_ | refine RT.sb0 (fun _ => ?_) (fun _ => ?_) | refine RT.sb1 (fun _ => ?_) (fun _ => ?_) | refine RT.sb2 (fun _ => ?_) (fun _ => ?_) | refine RT.sb3 (fun _ => ?_) (fun _ => ?_) | refine RT.sb4 (fun _ => ?_) (fun _ => ?_) | refine RT.sb (fun _ => ?_) (fun _ => ?_) | refine RT.st0 ?_ (fun _ => ?_) | refine RT.sf0 ?_ (fun _ => ?_) | refine RT.st1 ?_ (fun _ => ?_) | refine RT.sf1 ?_ (fun _ => ?_) | refine RT.st2 ?_ (fun _ => ?_) | refine RT.sf2 ?_ (fun _ => ?_) | refine RT.st3 ?_ (fun _ => ?_) | refine RT.sf3 ?_ (fun _ => ?_) | refine RT.st4 ?_ (fun _ => ?_) | refine RT.sf4 ?_ (fun _ => ?_) | refine RT.st ?_ (fun _ => ?_) | refine RT.sf ?_ (fun _ => ?_)
  all_goals first | assumption | (simp only [hd, hdTwo, hdPlaces, hdOne, sm, w1, al10, hdN, cA, *]; done) | (first | (simp only [pA] at *; omega) | (simp [nm_in]; done) | (simp_all; done) | (simp_all; omega) | (simp at *; omega)) | ((try simp only [orA]); (try rw [or_w1 d (by simp_all)]); first | (simp only [hd, hdTwo, hdPlaces, hdOne, sm, w1, al10, hdN, cA, *]; first | done | rfl | (simp; done)) | (exfalso; simp only [nz, pA, dA, wA] at *; omega) | (exfalso; simp only [nz, pA, dA] at *; have := wd_ex d; omega) | (simp only [nz, pA, dA] at *; simp_all [hd, hdTwo, hdPlaces, hdOne, sm, w1, al10, hdN]; done))
end Go.Proofs.Ytnknopebjdgdjaa.Isa
namespace Go.Proofs.Ytnknopebjdgdjaa.Isa
open Go Go.Ly Go.RowKit
def h11T (d s : Int) : RT Hd := .b 1 (q4 s 0) (.b 14 (q1 d 17) (r2 254 15 0) (.b 3 (q1 (wd d) 8) (.t 1 (true && in7 (nm d)) (r2 254 (200 + nm d) 0)) (.b 3 (q1 (wd d) 16) (r1 (bits .or .u8 72 (nm d)) 0) (.b 3 (q2 (wd d) 0) (.t 2 (true && in7 (nm d)) (r2 (bits .or .u8 208 (IntKind.u8.wrap (IntKind.i64.wrap ((wd d).tdiv 16)))) (248 + nm d) 0)) r0)))) (.b 7 (q3 (wd d) 0) (.b 8 (q1 (wd d) 16) r0 r0) (.f 6 (q1 (wd d) 16) r0))
def h12T (d s : Int) : RT Hd := .b 1 (q4 s 0) (.b 26 (q2 (wd d) 0) (.t 2 (true && in7 (nm d)) (r2 (bits .or .u8 208 (IntKind.u8.wrap (IntKind.i64.wrap ((wd d).tdiv 16)))) (192 + nm d) 0)) r0) (.b 7 (q3 (wd d) 0) (.b 8 (q1 (wd d) 16) r0 r0) (.f 6 (q1 (wd d) 16) r0))
def h13T (d s : Int) : RT Hd := .b 1 (q4 s 0) (.b 26 (q2 (wd d) 0) (.t 2 (true && in7 (nm d)) (r2 (bits .or .u8 208 (IntKind.u8.wrap (IntKind.i64.wrap ((wd d).tdiv 16)))) (200 + nm d) 0)) r0) (.b 7 (q3 (wd d) 0) (.b 8 (q1 (wd d) 16) r0 r0) (.f 6 (q1 (wd d) 16) r0))
def h14T (d s : Int) : RT Hd := .b 1 (q4 s 0) (.b 26 (q2 (wd d) 0) (.t 2 (true && in7 (nm d)) (r2 (bits .or .u8 208 (IntKind.u8.wrap (IntKind.i64.wrap ((wd d).tdiv 16)))) (208 + nm d) 0)) r0) (.b 7 (q3 (wd d) 0) (.b 8 (q1 (wd d) 16) r0 r0) (.f 6 (q1 (wd d) 16) r0))
def h15T (d s : Int) : RT Hd := .b 1 (q4 s 0) (.b 26 (q2 (wd d) 0) (.t 2 (true && in7 (nm d)) (r2 (bits .or .u8 208 (IntKind.u8.wrap (IntKind.i64.wrap ((wd d).tdiv 16)))) (216 + nm d) 0)) r0) (.b 7 (q3 (wd d) 0) (.b 8 (q1 (wd d) 16) r0 r0) (.f 6 (q1 (wd d) 16) r0))
def h16T (d s : Int) : RT Hd := .b 1 (q4 s 0) (.b 30 (q1 (wd d) 8) (.t 1 (true && in7 (nm d)) (r2 246 (208 + nm d) 0)) r0) (.b 7 (q3 (wd d) 0) (.b 8 (q1 (wd d) 16) r0 r0) (.f 6 (q1 (wd d) 16) r0))
def h17T (d s : Int) : RT Hd := .b 1 (q4 s 0) (.b 7 (q3 (wd d) 0) (.b 8 (q1 (wd d) 16) (.b 6 (q0 (wd d) (wd s)) (.b 2 (q3 d 9) (.t 2 (q2 s 9) (.t 2 (in7 (nm s) && in7 (nm d)) (r2 135 (192 + nm s * 8 + nm d) 0))) r0) r0) (.b 6 (q0 (wd d) (wd s)) (.b 2 (q3 d 9) (.t 2 (q2 s 9) (.t 2 (in7 (nm s) && in7 (nm d)) (r2 134 (192 + nm s * 8 + nm d) 0))) r0) r0)) (.f 6 (q1 (wd d) 16) r0)) (.b 7 (q3 (wd d) 0) (.b 8 (q1 (wd d) 16) (.b 6 (q0 (wd d) (wd s)) (.b 2 (q3 d 9) (.b 2 (q2 s 9) (.t 2 (in7 (nm s) && in7 (nm d)) (r2 135 (192 + nm s * 8 + nm d) 0)) r0) r0) r0) (.b 6 (q0 (wd d) (wd s)) (.b 2 (q3 d 9) (.b 2 (q2 s 9) (.t 2 (in7 (nm s) && in7 (nm d)) (r2 134 (192 + nm s * 8 + nm d) 0)) r0) r0) r0)) (.f 6 (q1 (wd d) 16) r0))
def h18T (d s : Int) : RT Hd := .b 1 (q4 s 0) (.b 34 (q1 (wd d) 16) (r1 (bits .or .u8 80 (nm d)) 0) r0) (.b 7 (q3 (wd d) 0) (.b 8 (q1 (wd d) 16) r0 r0) (.f 6 (q1 (wd d) 16) r0))
def h19T (d s : Int) : RT Hd := .b 1 (q4 s 0) (.b 34 (q1 (wd d) 16) (r1 (bits .or .u8 88 (nm d)) 0) r0) (.b 7 (q3 (wd d) 0) (.b 8 (q1 (wd d) 16) r0 r0) (.f 6 (q1 (wd d) 16) r0))
def h20T (d s : Int) : RT Hd := .b 1 (q4 s 0) (.b 10 (q0 d 0) (r1 159 0) (.f 6 (q0 d 0) (.b 3 (q2 d 20) r0 r0))) (.b 7 (q3 (wd d) 0) (.b 8 (q1 (wd d) 16) r0 r0) (.f 6 (q1 (wd d) 16) r0))
def h21T (d s : Int) : RT Hd := .b 1 (q4 s 0) (.b 10 (q0 d 0) (r1 158 0) (.f 6 (q0 d 0) (.b 3 (q2 d 20) r0 r0))) (.b 7 (q3 (wd d) 0) (.b 8 (q1 (wd d) 16) r0 r0) (.f 6 (q1 (wd d) 16) r0))
def h22T (d s : Int) : RT Hd := .b 1 (q4 s 0) (.b 10 (q0 d 0) (r1 39 0) (.f 6 (q0 d 0) (.b 3 (q2 d 20) r0 r0))) (.b 7 (q3 (wd d) 0) (.b 8 (q1 (wd d) 16) r0 r0) (.f 6 (q1 (wd d) 16) r0))
def h23T (d s : Int) : RT Hd := .b 1 (q4 s 0) (.b 10 (q0 d 0) (r1 245 0) (.f 6 (q0 d 0) (.b 3 (q2 d 20) r0 r0))) (.b 7 (q3 (wd d) 0) (.b 8 (q1 (wd d) 16) r0 r0) (.f 6 (q1 (wd d) 16) r0))
set_option maxHeartbeats 100000000 in
set_option maxRecDepth 100000 in
theorem hg3 (d s : Int) : HdCall 11 d s ∧ HdCall 12 d s ∧ HdCall 13 d s ∧ HdCall 14 d s ∧ HdCall 15 d s ∧ HdCall 16 d s ∧ HdCall 17 d s ∧ HdCall 18 d s ∧ HdCall 19 d s ∧ HdCall 20 d s ∧ HdCall 21 d s ∧ HdCall 22 d s ∧ HdCall 23 d s := by
  refine ⟨hd_of (T := h11T d s) (by kernel_rfl) ?_, hd_of (T := h12T d s) (by kernel_rfl) ?_, hd_of (T := h13T d s) (by kernel_rfl) ?_, hd_of (T := h14T d s) (by kernel_rfl) ?_, hd_of (T := h15T d s) (by kernel_rfl) ?_, hd_of (T := h16T d s) (by kernel_rfl) ?_, hd_of (T := h17T d s) (by kernel_rfl) ?_, hd_of (T := h18T d s) (by kernel_rfl) ?_, hd_of (T := h19T d s) (by kernel_rfl) ?_, hd_of (T := h20T d s) (by kernel_rfl) ?_, hd_of (T := h21T d s) (by kernel_rfl) ?_, hd_of (T := h22T d s) (by kernel_rfl) ?_, hd_of (T := h23T d s) (by kernel_rfl) ?_⟩
  all_goals first | unfold h11T | unfold h12T | unfold h13T | unfold h14T | unfold h15T | unfold h16T | unfold h17T | unfold h18T | unfold h19T | unfold h20T | unfold h21T | unfold h22T | unfold h23T
  repeat' with_reducible first | refine RT.sl ?_ | refine RT.sb0 (fun _ => ?_) (fun _ => ?_) | refine RT.sb1 (fun _ => ?_) (fun _ => ?_) | refine RT.sb2 (fun _ => ?_) (fun _ => ?_) | refine RT.sb3 (fun _ => ?_) (fun _ => ?_) | refine RT.sb4 (fun _ => ?_) (fun _ => ?_) | refine RT.sb (fun _ => ?_) (fun _ => ?_) | refine RT.st0 ?_ (fun _ => ?_) | refine RT.sf0 ?_ (fun _ => ?_) | refine RT.st1 ?_ (fun _ => ?_) | refine RT.sf1 ?_ (fun _ => ?_) | refine RT.st2 ?_ (fun _ => ?_) | refine RT.sf2 ?_ (fun _ => ?_) | refine RT.st3 ?_ (fun _ => ?_) | refine RT.sf3 ?_ (fun _ => ?_) | refine RT.st4 ?_ (fun _ => ?_) | refine RT.sf4 ?_ (fun _ => ?_) | refine RT.st ?_ (fun _ => ?_) | refine RT.sf ?_ (fun _ => ?_)
  all_goals first | assumption | (simp only [hd, hdTwo, hdPlaces, hdOne, sm, w1, al10, hdN, cA, *]; done) | (first | (simp only [pA] at *; omega) | (simp [nm_in]; done) | (simp_all; done) | (simp_all; omega) | (simp at *; omega)) | ((try simp only [orA]); (try rw [or_w1 d (by simp_all)]); first | (simp only [hd, hdTwo, hdPlaces, hdOne, sm, w1, al10, hdN, cA, *]; first | done | rfl | (simp; done)) | (exfalso; simp only [nz, pA, dA, wA] at *; omega) | (exfalso; simp only [nz, pA, dA] at *; have := wd_ex d; omega) | (simp only [nz, pA, dA] at *; simp_all [hd, hdTwo, hdPlaces, hdOne, sm, w1, al10, hdN]; done))
end Go.Proofs.Ytnknopebjdgdjaa.Isa
namespace Go.Proofs.Ytnknopebjdgdjaa.Isa
open Go Go.Ly Go.RowKit
def h24T (d s : Int) : RT Hd := .b 1 (q4 s 0) (.b 10 (q0 d 0) (r1 249 0) (.f 6 (q0 d 0) (.b 3 (q2 d 20) r0 r0))) (.b 7 (q3 (wd d) 0) (.b 8 (q1 (wd d) 16) r0 r0) (.f 6 (q1 (wd d) 16) r0))
def h25T (d s : Int) : RT Hd := .b 1 (q4 s 0) (.b 10 (q0 d 0) (r1 248 0) (.f 6 (q0 d 0) (.b 3 (q2 d 20) r0 r0))) (.b 7 (q3 (wd d) 0) (.b 8 (q1 (wd d) 16) r0 r0) (.f 6 (q1 (wd d) 16) r0))
def h26T (d s : Int) : RT Hd := .b 1 (q4 s 0) (.b 10 (q0 d 0) (r1 251 0) (.f 6 (q0 d 0) (.b 3 (q2 d 20) r0 r0))) (.b 7 (q3 (wd d) 0) (.b 8 (q1 (wd d) 16) r0 r0) (.f 6 (q1 (wd d) 16) r0))
def h27T (d s : Int) : RT Hd := .b 1 (q4 s 0) (.b 10 (q0 d 0) (r1 250 0) (.f 6 (q0 d 0) (.b 3 (q2 d 20) r0 r0))) (.b 7 (q3 (wd d) 0) (.b 8 (q1 (wd d) 16) r0 r0) (.f 6 (q1 (wd d) 16) r0))
def h28T (d s : Int) : RT Hd := .b 1 (q4 s 0) (.b 10 (q0 d 0) (r1 244 0) (.f 6 (q0 d 0) (.b 3 (q2 d 20) r0 r0))) (.b 7 (q3 (wd d) 0) (.b 8 (q1 (wd d) 16) r0 r0) (.f 6 (q1 (wd d) 16) r0))
def h29T (d s : Int) : RT Hd := .b 1 (q4 s 0) (.b 10 (q0 d 0) (r1 144 0) (.f 6 (q0 d 0) (.b 3 (q2 d 20) r0 r0))) (.b 7 (q3 (wd d) 0) (.b 8 (q1 (wd d) 16) r0 r0) (.f 6 (q1 (wd d) 16) r0))
def h30T (d s : Int) : RT Hd := .b 1 (q4 s 0) (.b 10 (q0 d 0) (.t 6 (q0 d 0) (.t 3 (q2 d 20) r0)) (.f 6 (q0 d 0) (.b 3 (q2 d 20) r0 r0))) (.b 7 (q3 (wd d) 0) (.b 8 (q1 (wd d) 16) (.b 16 (q0 d 1) (.b 2 (q1 s 20) (r1 228 1) r0) r0) (.b 16 (q0 d 1) (.b 2 (q1 s 20) (r1 228 1) r0) r0)) (.f 6 (q1 (wd d) 16) (.b 16 (q0 d 1) (.b 2 (q1 s 20) (r1 228 1) r0) r0)))
def h31T (d s : Int) : RT Hd := .b 1 (q4 s 0) (.b 10 (q0 d 0) (.t 6 (q0 d 0) (.t 3 (q2 d 20) r0)) (.f 6 (q0 d 0) (.b 3 (q2 d 20) r0 r0))) (.b 7 (q3 (wd d) 0) (.b 8 (q1 (wd d) 16) (.b 23 (q0 d 20) (.b 2 (q1 s 1) (r1 230 1) r0) r0) (.b 23 (q0 d 20) (.b 2 (q1 s 1) (r1 230 1) r0) r0)) (.f 6 (q1 (wd d) 16) (.b 23 (q0 d 20) (.b 2 (q1 s 1) (r1 230 1) r0) r0)))
def h32T (d s : Int) : RT Hd := .b 1 (q4 s 0) (.b 10 (q0 d 0) (.t 6 (q0 d 0) (.t 3 (q2 d 20) r0)) (.f 6 (q0 d 0) (.b 3 (q2 d 20) r0 (r1 233 2)))) (.b 7 (q3 (wd d) 0) (.b 8 (q1 (wd d) 16) r0 r0) (.f 6 (q1 (wd d) 16) r0))
def h33T (d s : Int) : RT Hd := .b 1 (q4 s 0) (.b 10 (q0 d 0) (.t 6 (q0 d 0) (.t 3 (q2 d 20) r0)) (.f 6 (q0 d 0) (.b 3 (q2 d 20) r0 (r1 235 3)))) (.b 7 (q3 (wd d) 0) (.b 8 (q1 (wd d) 16) r0 r0) (.f 6 (q1 (wd d) 16) r0))
def h34T (d s : Int) : RT Hd := .b 1 (q4 s 0) (.b 10 (q0 d 0) (.t 6 (q0 d 0) (.t 3 (q2 d 20) r0)) (.f 6 (q0 d 0) (.b 3 (q2 d 20) r0 (r1 232 2)))) (.b 7 (q3 (wd d) 0) (.b 8 (q1 (wd d) 16) r0 r0) (.f 6 (q1 (wd d) 16) r0))
def h35T (d s : Int) : RT Hd := .b 1 (q4 s 0) (.b 10 (q0 d 0) (.t 6 (q0 d 0) (r1 195 0)) (.f 6 (q0 d 0) (.b 3 (q2 d 20) r0 r0))) (.b 7 (q3 (wd d) 0) (.b 8 (q1 (wd d) 16) r0 r0) (.f 6 (q1 (wd d) 16) r0))
def h36T (d s : Int) : RT Hd := .b 1 (q4 s 0) (.b 10 (q0 d 0) (.t 6 (q0 d 0) (.t 3 (q2 d 20) r0)) (.f 6 (q0 d 0) (.b 3 (q2 d 20) r0 r0))) (.b 7 (q3 (wd d) 0) (.b 8 (q1 (wd d) 16) r0 r0) (.f 6 (q1 (wd d) 16) r0))
def h37T (d s : Int) : RT Hd := .b 1 (q4 s 0) (.b 10 (q0 d 0) (.t 6 (q0 d 0) (.t 3 (q2 d 20) r0)) (.f 6 (q0 d 0) (.b 3 (q2 d 20) r0 r0))) (.b 7 (q3 (wd d) 0) (.b 8 (q1 (wd d) 16) r0 r0) (.f 6 (q1 (wd d) 16) r0))
set_option maxHeartbeats 100000000 in
set_option maxRecDepth 100000 in
theorem hg4 (d s : Int) : HdCall 24 d s ∧ HdCall 25 d s ∧ HdCall 26 d s ∧ HdCall 27 d s ∧ HdCall 28 d s ∧ HdCall 29 d s ∧ HdCall 30 d s ∧ HdCall 31 d s ∧ HdCall 32 d s ∧ HdCall 33 d s ∧ HdCall 34 d s ∧ HdCall 35 d s ∧ HdCall 36 d s ∧ HdCall 37 d s := by
  refine ⟨hd_of (T := h24T d s) (by kernel_rfl) ?_, hd_of (T := h25T d s) (by kernel_rfl) ?_, hd_of (T := h26T d s) (by kernel_rfl) ?_, hd_of (T := h27T d s) (by kernel_rfl) ?_, hd_of (T := h28T d s) (by kernel_rfl) ?_, hd_of (T := h29T d s) (by kernel_rfl) ?_, hd_of (T := h30T d s) (by kernel_rfl) ?_, hd_of (T := h31T d s) (by kernel_rfl) ?_, hd_of (T := h32T d s) (by kernel_rfl) ?_, hd_of (T := h33T d s) (by kernel_rfl) ?_, hd_of (T := h34T d s) (by kernel_rfl) ?_, hd_of (T := h35T d s) (by kernel_rfl) ?_, hd_of (T := h36T d s) (by kernel_rfl) ?_, hd_of (T := h37T d s) (by kernel_rfl) ?_⟩
  all_goals first | unfold h24T | unfold h25T | unfold h26T | unfold h27T | unfold h28T | unfold h29T | unfold h30T | unfold h31T | unfold h32T | unfold h33T | unfold h34T | unfold h35T | unfold h36T | unfold h37T
  repeat' with_reducible first | refine RT.sl ?_ | refine RT.sb0 (fun _ => ?_) (fun _ => ?_) | refine RT.sb1 (fun _ => ?_) (fun _ => ?_) | refine RT.sb2 (fun _ => ?_) (fun _ => ?_) | refine RT.sb3 (fun _ => ?_) (fun _ => ?_) | refine RT.sb4 (fun _ => ?_) (fun _ => ?_) | refine RT.sb (fun _ => ?_) (fun _ => ?_) | refine RT.st0 ?_ (fun _ => ?_) | refine RT.sf0 ?_ (fun _ => ?_) | refine RT.st1 ?_ (fun _ => ?_) | refine RT.sf1 ?_ (fun _ => ?_) | refine RT.st2 ?_ (fun _ => ?_) | refine RT.sf2 ?_ (fun _ => ?_) | refine RT.st3 ?_ (fun _ => ?_) | refine RT.sf3 ?_ (fun _ => ?_) | refine RT.st4 ?_ (fun _ => ?_) | refine RT.sf4 ?_ (fun _ => ?_) | refine RT.st ?_ (fun _ => ?_) | refine RT.sf ?_ (fun _ => ?_)
  all_goals first | assumption | (simp only [hd, hdTwo, hdPlaces, hdOne, sm, w1, al10, hdN, cA, *]; done) | (first | (simp only [pA] at *; omega) | (simp [nm_in]; done) | (simp_all; done) | (simp_all; omega) | (simp at *; omega)) | ((try simp only [orA]); (try rw [or_w1 d (by simp_all)]); first | (simp only [hd, hdTwo, hdPlaces, hdOne, sm, w1, al10, hdN, cA, *]; first | done | rfl | (simp; done)) | (exfalso; simp only [nz, pA, dA, wA] at *; omega) | (exfalso; simp only [nz, pA, dA] at *; have := wd_ex d; omega) | (simp only [nz, pA, dA] at *; simp_all [hd, hdTwo, hdPlaces, hdOne, sm, w1, al10, hdN]; done))
end Go.Proofs.Ytnknopebjdgdjaa.Isa
namespace Go.Proofs.Ytnknopebjdgdjaa.Isa
open Go Go.Ly Go.RowKit
def h38T (d s : Int) : RT Hd := .b 1 (q4 s 0) (.b 10 (q0 d 0) (.t 6 (q0 d 0) (.t 3 (q2 d 20) r0)) (.f 6 (q0 d 0) (.b 3 (q2 d 20) r0 r0))) (.b 7 (q3 (wd d) 0) (.b 8 (q1 (wd d) 16) r0 r0) (.f 6 (q1 (wd d) 16) r0))
def h39T (d s : Int) : RT Hd := .b 1 (q4 s 0) (.b 10 (q0 d 0) (.t 6 (q0 d 0) (.t 3 (q2 d 20) r0)) (.f 6 (q0 d 0) (.b 3 (q2 d 20) r0 r0))) (.b 7 (q3 (wd d) 0) (.b 8 (q1 (wd d) 16) r0 r0) (.f 6 (q1 (wd d) 16) r0))
def h40T (d s : Int) : RT Hd := .b 1 (q4 s 0) (.b 10 (q0 d 0) (.t 6 (q0 d 0) (.t 3 (q2 d 20) r0)) (.f 6 (q0 d 0) (.b 3 (q2 d 20) r0 r0))) (.b 7 (q3 (wd d) 0) (.b 8 (q1 (wd d) 16) r0 r0) (.f 6 (q1 (wd d) 16) r0))
def h41T (d s : Int) : RT Hd := .b 1 (q4 s 0) (.b 10 (q0 d 0) (.t 6 (q0 d 0) (.t 3 (q2 d 20) r0)) (.f 6 (q0 d 0) (.b 3 (q2 d 20) r0 r0))) (.b 7 (q3 (wd d) 0) (.b 8 (q1 (wd d) 16) r0 r0) (.f 6 (q1 (wd d) 16) r0))
def h42T (d s : Int) : RT Hd := .b 1 (q4 s 0) (.b 10 (q0 d 0) (.t 6 (q0 d 0) (.t 3 (q2 d 20) r0)) (.f 6 (q0 d 0) (.b 3 (q2 d 20) r0 (r1 114 3)))) (.b 7 (q3 (wd d) 0) (.b 8 (q1 (wd d) 16) r0 r0) (.f 6 (q1 (wd d) 16) r0))
def h43T (d s : Int) : RT Hd := .b 1 (q4 s 0) (.b 10 (q0 d 0) (.t 6 (q0 d 0) (.t 3 (q2 d 20) r0)) (.f 6 (q0 d 0) (.b 3 (q2 d 20) r0 (r1 115 3)))) (.b 7 (q3 (wd d) 0) (.b 8 (q1 (wd d) 16) r0 r0) (.f 6 (q1 (wd d) 16) r0))
def h44T (d s : Int) : RT Hd := .b 1 (q4 s 0) (.b 10 (q0 d 0) (.t 6 (q0 d 0) (.t 3 (q2 d 20) r0)) (.f 6 (q0 d 0) (.b 3 (q2 d 20) r0 (r1 116 3)))) (.b 7 (q3 (wd d) 0) (.b 8 (q1 (wd d) 16) r0 r0) (.f 6 (q1 (wd d) 16) r0))
def h45T (d s : Int) : RT Hd := .b 1 (q4 s 0) (.b 10 (q0 d 0) (.t 6 (q0 d 0) (.t 3 (q2 d 20) r0)) (.f 6 (q0 d 0) (.b 3 (q2 d 20) r0 (r1 117 3)))) (.b 7 (q3 (wd d) 0) (.b 8 (q1 (wd d) 16) r0 r0) (.f 6 (q1 (wd d) 16) r0))
def h46T (d s : Int) : RT Hd := .b 1 (q4 s 0) (.b 10 (q0 d 0) (.t 6 (q0 d 0) (.t 3 (q2 d 20) r0)) (.f 6 (q0 d 0) (.b 3 (q2 d 20) r0 r0))) (.b 7 (q3 (wd d) 0) (.b 8 (q1 (wd d) 16) r0 r0) (.f 6 (q1 (wd d) 16) r0))
def h47T (d s : Int) : RT Hd := .b 1 (q4 s 0) (.b 10 (q0 d 0) (.t 6 (q0 d 0) (.t 3 (q2 d 20) r0)) (.f 6 (q0 d 0) (.b 3 (q2 d 20) r0 r0))) (.b 7 (q3 (wd d) 0) (.b 8 (q1 (wd d) 16) r0 r0) (.f 6 (q1 (wd d) 16) r0))
def h48T (d s : Int) : RT Hd := .b 1 (q4 s 0) (.b 10 (q0 d 0) (.t 6 (q0 d 0) (.t 3 (q2 d 20) r0)) (.f 6 (q0 d 0) (.b 3 (q2 d 20) r0 (r1 120 3)))) (.b 7 (q3 (wd d) 0) (.b 8 (q1 (wd d) 16) r0 r0) (.f 6 (q1 (wd d) 16) r0))
def h49T (d s : Int) : RT Hd := .b 1 (q4 s 0) (.b 10 (q0 d 0) (.t 6 (q0 d 0) (.t 3 (q2 d 20) r0)) (.f 6 (q0 d 0) (.b 3 (q2 d 20) r0 (r1 121 3)))) (.b 7 (q3 (wd d) 0) (.b 8 (q1 (wd d) 16) r0 r0) (.f 6 (q1 (wd d) 16) r0))
def h50T (d s : Int) : RT Hd := .b 1 (q4 s 0) (.b 10 (q0 d 0) (.t 6 (q0 d 0) (.t 3 (q2 d 20) r0)) (.f 6 (q0 d 0) (.b 3 (q2 d 20) r0 (r1 122 3)))) (.b 7 (q3 (wd d) 0) (.b 8 (q1 (wd d) 16) r0 r0) (.f 6 (q1 (wd d) 16) r0))
def h51T (d s : Int) : RT Hd := .b 1 (q4 s 0) (.b 10 (q0 d 0) (.t 6 (q0 d 0) (.t 3 (q2 d 20) r0)) (.f 6 (q0 d 0) (.b 3 (q2 d 20) r0 (r1 123 3)))) (.b 7 (q3 (wd d) 0) (.b 8 (q1 (wd d) 16) r0 r0) (.f 6 (q1 (wd d) 16) r0))
set_option maxHeartbeats 100000000 in
set_option maxRecDepth 100000 in
theorem hg5 (d s : Int) : HdCall 38 d s ∧ HdCall 39 d s ∧ HdCall 40 d s ∧ HdCall 41 d s ∧ HdCall 42 d s ∧ HdCall 43 d s ∧ HdCall 44 d s ∧ HdCall 45 d s ∧ HdCall 46 d s ∧ HdCall 47 d s ∧ HdCall 48 d s ∧ HdCall 49 d s ∧ HdCall 50 d s ∧ HdCall 51 d s := by
  refine ⟨hd_of (T := h38T d s) (by kernel_rfl) ?_, hd_of (T := h39T d s) (by kernel_rfl) ?_, hd_of (T := h40T d s) (by kernel_rfl) ?_, hd_of (T := h41T d s) (by kernel_rfl) ?_, hd_of (T := h42T d s) (by kernel_rfl) ?_, hd_of (T := h43T d s) (by kernel_rfl) ?_, hd_of (T := h44T d s) (by kernel_rfl) ?_, hd_of (T := h45T d s) (by kernel_rfl) ?_, hd_of (T := h46T d s) (by kernel_rfl) ?_, hd_of (T := h47T d s) (by kernel_rfl) ?_, hd_of (T := h48T d s) (by kernel_rfl) ?_, hd_of (T := h49T d s) (by kernel_rfl) ?_, hd_of (T := h50T d s) (by kernel_rfl) ?_, hd_of (T := h51T d s) (by kernel_rfl) ?_⟩
  all_goals first | unfold h38T | unfold h39T | unfold h40T | unfold h41T | unfold h42T | unfold h43T | unfold h44T | unfold h45T | unfold h46T | unfold h47T | unfold h48T | unfold h49T | unfold h50T | unfold h51T
  repeat' with_reducible first | refine RT.sl ?_ | refine RT.sb0 (fun _ => ?_) (fun _ => ?_) | refine RT.sb1 (fun _ => ?_) (fun _ => ?_) | refine RT.sb2 (fun _ => ?_) (fun _ => ?_) | refine RT.sb3 (fun _ => ?_) (fun _ => ?_) | refine RT.sb4 (fun _ => ?_) (fun _ => ?_) | refine RT.sb (fun _ => ?_) (fun _ => ?_) | refine RT.st0 ?_ (fun _ => ?_) | refine RT.sf0 ?_ (fun _ => ?_) | refine RT.st1 ?_ (fun _ => ?_) | refine RT.sf1 ?_ (fun _ => ?_) | refine RT.st2 ?_ (fun _ => ?_) | refine RT.sf2 ?_ (fun _ => ?_) | refine RT.st3 ?_ (fun _ => ?_) | refine RT.sf3 ?_ (fun _ => ?_) | refine RT.st4 ?_ (fun _ => ?_) | refine RT.sf4 ?_ (fun _ => ?_) | refine RT.st ?_ (fun _ => ?_) | refine RT.sf ?_ (fun _ => ?_)
  all_goals first | assumption | (simp only [hd, hdTwo, hdPlaces, hdOne, sm, w1, al10, hdN, cA, *]; done) | (first | (simp only [pA] at *; omega) | (simp [nm_in]; done) | (simp_all; done) | (simp_all; omega) | (simp at *; omega)) | ((try simp only [orA]); (try rw [or_w1 d (by simp_all)]); first | (simp only [hd, hdTwo, hdPlaces, hdOne, sm, w1, al10, hdN, cA, *]; first | done | rfl | (simp; done)) | (exfalso; simp only [nz, pA, dA, wA] at *; omega) | (exfalso; simp only [nz, pA, dA] at *; have := wd_ex d; omega) | (simp only [nz, pA, dA] at *; simp_all [hd, hdTwo, hdPlaces, hdOne, sm, w1, al10, hdN]; done))
def hLT (op d s : Int) : RT Hd := .t 0 (decide (op < 1)) r0
set_option maxHeartbeats 8000000 in
set_option maxRecDepth 100000 in
theorem hL_all (op d s : Int) (hop : op < 1) : HdCall op d s := by
  have hop1 : decide (op < 1) = true := decide_eq_true hop
  have hop2 : decide (9 < op) = false := decide_eq_false (by omega)
  have hop3 : decide (op ≤ 19) = true := decide_eq_true (by omega)
  have hop4 : decide (op ≤ 29) = true := decide_eq_true (by omega)
  refine hd_of (T := hLT op d s) (by kernel_rfl) ?_
  unfold hLT
  repeat' with_reducible first | refine RT.sl ?_ | refine RT.sb0 (fun _ => ?_) (fun _ => ?_) | refine RT.sb1 (fun _ => ?_) (fun _ => ?_) | refine RT.sb2 (fun _ => ?_) (fun _ => ?_) | refine RT.sb3 (fun _ => ?_) (fun _ => ?_) | refine RT.sb4 (fun _ => ?_) (fun _ => ?_) | refine RT.sb (fun _ => ?_) (fun _ => ?_) | refine RT.st0 ?_ (fun _ => ?_) | refine RT.sf0 ?_ (fun _ => ?_) | refine RT.st1 ?_ (fun _ => ?_) | refine RT.sf1 ?_ (fun _ => ?_) | refine RT.st2 ?_ (fun _ => ?_) | refine RT.sf2 ?_ (fun _ => ?_) | refine RT.st3 ?_ (fun _ => ?_) | refine RT.sf3 ?_ (fun _ => ?_) | refine RT.st4 ?_ (fun _ => ?_) | refine RT.sf4 ?_ (fun _ => ?_) | refine RT.st ?_ (fun _ => ?_) | refine RT.sf ?_ (fun _ => ?_)
  all_goals (try simp only [nz] at *)
  all_goals first | assumption | (simp only [hd, hdTwo, hdPlaces, hdOne, sm, w1, al10, hdN, cA, *]; done) | (first | (simp only [pA] at *; omega) | (simp [nm_in]; done) | (simp_all; done) | (simp_all; omega) | (simp at *; omega)) | ((try simp only [orA]); (try rw [or_w1 d (by simp_all)]); first | (simp only [hd, hdTwo, hdPlaces, hdOne, sm, w1, al10, hdN, cA, *]; first | done | rfl | (simp; done)) | (exfalso; simp only [nz, pA, dA, wA] at *; omega) | (exfalso; simp only [nz, pA, dA] at *; have := wd_ex d; omega) | (simp only [nz, pA, dA] at *; simp_all [hd, hdTwo, hdPlaces, hdOne, sm, w1, al10, hdN]; done))
def hGT (op d s : Int) : RT Hd := .f 0 (decide (op < 1)) (.b 0 (q4 s 0) (.t 2 ((op == 1) == false) (.f 2 (q1 op 17) (.t 0 (decide (10 ≤ op) == true) (.f 2 (decide (op ≤ 19)) (.b 0 (q0 d 0) (.t 2 (decide (20 ≤ op) == true) (.f 2 (decide (op ≤ 29)) (.t 0 (q0 d 0) (.f 2 (q1 op 35) (.t 0 (q2 d 20) r0))))) (.f 6 (q0 d 0) (.b 3 (q2 d 20) r0 (.f 0 (q1 op 32) (.f 0 (q1 op 33) (.f 0 (q1 op 34) (.t 0 (decide (42 ≤ op) == true) (.f 2 (decide (op ≤ 51) == true) r0)))))))))))) (.b 7 (q3 (wd d) 0) (.b 8 (q1 (wd d) 16) (.f 0 (q0 op 1) (.f 2 (q1 op 1) (.f 0 (q0 op 17) (.f 8 (q0 op 30) (.f 6 (q0 op 31) (.t 6 (decide (op < 2) == false) (.t 2 (decide (9 < op)) r0))))))) (.f 0 (q0 op 1) (.f 2 (q1 op 1) (.f 0 (q0 op 17) (.f 8 (q0 op 30) (.f 6 (q0 op 31) (.t 6 (decide (op < 2) == false) (.t 2 (decide (9 < op)) r0)))))))) (.f 6 (q1 (wd d) 16) (.f 0 (q0 op 1) (.f 2 (q1 op 1) (.f 0 (q0 op 17) (.f 8 (q0 op 30) (.f 6 (q0 op 31) (.t 6 (decide (op < 2) == false) (.t 2 (decide (9 < op)) r0))))))))))
set_option maxHeartbeats 8000000 in
set_option maxRecDepth 100000 in
theorem hG_all (op d s : Int) (hop : 51 < op) : HdCall op d s := by
  have hop1 : decide (op < 1) = false := decide_eq_false (by omega)
  have hop2 : decide (9 < op) = true := decide_eq_true (by omega)
  have hop3 : decide (op ≤ 19) = false := decide_eq_false (by omega)
  have hop4 : decide (op ≤ 29) = false := decide_eq_false (by omega)
  refine hd_of (T := hGT op d s) (by kernel_rfl) ?_
  unfold hGT
  repeat' with_reducible first | refine RT.sl ?_ | refine RT.sb0 (fun _ => ?_) (fun _ => ?_) | refine RT.sb1 (fun _ => ?_) (fun _ => ?_) | refine RT.sb2 (fun _ => ?_) (fun _ => ?_) | refine RT.sb3 (fun _ => ?_) (fun _ => ?_) | refine RT.sb4 (fun _ => ?_) (fun _ => ?_) | refine RT.sb (fun _ => ?_) (fun _ => ?_) | refine RT.st0 ?_ (fun _ => ?_) | refine RT.sf0 ?_ (fun _ => ?_) | refine RT.st1 ?_ (fun _ => ?_) | refine RT.sf1 ?_ (fun _ => ?_) | refine RT.st2 ?_ (fun _ => ?_) | refine RT.sf2 ?_ (fun _ => ?_) | refine RT.st3 ?_ (fun _ => ?_) | refine RT.sf3 ?_ (fun _ => ?_) | refine RT.st4 ?_ (fun _ => ?_) | refine RT.sf4 ?_ (fun _ => ?_) | refine RT.st ?_ (fun _ => ?_) | refine RT.sf ?_ (fun _ => ?_)
  all_goals (try simp only [nz] at *)
  all_goals first | assumption | (simp only [hd, hdTwo, hdPlaces, hdOne, sm, w1, al10, hdN, cA, *]; done) | (first | (simp only [pA] at *; omega) | (simp [nm_in]; done) | (simp_all; done) | (simp_all; omega) | (simp at *; omega)) | ((try simp only [orA]); (try rw [or_w1 d (by simp_all)]); first | (simp only [hd, hdTwo, hdPlaces, hdOne, sm, w1, al10, hdN, cA, *]; first | done | rfl | (simp; done)) | (exfalso; simp only [nz, pA, dA, wA] at *; omega) | (exfalso; simp only [nz, pA, dA] at *; have := wd_ex d; omega) | (simp only [nz, pA, dA] at *; simp_all [hd, hdTwo, hdPlaces, hdOne, sm, w1, al10, hdN]; done))
end Go.Proofs.Ytnknopebjdgdjaa.Isa
namespace Go.Proofs.Ytnknopebjdgdjaa.Isa
open Go Go.Ly Go.RowKit
theorem heads_all (op d s : Int) : HdCall op d s := by
  rcases Int.lt_or_le op 1 with h | h
  · exact hL_all op d s h
  rcases Int.lt_or_le 51 op with h2 | h2
  · exact hG_all op d s h2
  have : op = 1 ∨ op = 2 ∨ op = 3 ∨ op = 4 ∨ op = 5 ∨ op = 6 ∨ op = 7 ∨ op = 8 ∨ op = 9 ∨ op = 10 ∨ op = 11 ∨ op = 12 ∨ op = 13 ∨ op = 14 ∨ op = 15 ∨ op = 16 ∨ op = 17 ∨ op = 18 ∨ op = 19 ∨ op = 20 ∨ op = 21 ∨ op = 22 ∨ op = 23 ∨ op = 24 ∨ op = 25 ∨ op = 26 ∨ op = 27 ∨ op = 28 ∨ op = 29 ∨ op = 30 ∨ op = 31 ∨ op = 32 ∨ op = 33 ∨ op = 34 ∨ op = 35 ∨ op = 36 ∨ op = 37 ∨ op = 38 ∨ op = 39 ∨ op = 40 ∨ op = 41 ∨ op = 42 ∨ op = 43 ∨ op = 44 ∨ op = 45 ∨ op = 46 ∨ op = 47 ∨ op = 48 ∨ op = 49 ∨ op = 50 ∨ op = 51 := by omega
  rcases this with rfl | rfl | rfl | rfl | rfl | rfl | rfl | rfl | rfl | rfl | rfl | rfl | rfl | rfl | rfl | rfl | rfl | rfl | rfl | rfl | rfl | rfl | rfl | rfl | rfl | rfl | rfl | rfl | rfl | rfl | rfl | rfl | rfl | rfl | rfl | rfl | rfl | rfl | rfl | rfl | rfl | rfl | rfl | rfl | rfl | rfl | rfl | rfl | rfl | rfl | rfl
  · exact hg0 d s
  · exact (hg1 d s).1
  · exact (hg1 d s).2.1
  · exact (hg1 d s).2.2.1
  · exact (hg1 d s).2.2.2
  · exact (hg2 d s).1
  · exact (hg2 d s).2.1
  · exact (hg2 d s).2.2.1
  · exact (hg2 d s).2.2.2.1
  · exact (hg2 d s).2.2.2.2
  · exact (hg3 d s).1
  · exact (hg3 d s).2.1
  · exact (hg3 d s).2.2.1
  · exact (hg3 d s).2.2.2.1
  · exact (hg3 d s).2.2.2.2.1
  · exact (hg3 d s).2.2.2.2.2.1
  · exact (hg3 d s).2.2.2.2.2.2.1
  · exact (hg3 d s).2.2.2.2.2.2.2.1
  · exact (hg3 d s).2.2.2.2.2.2.2.2.1
  · exact (hg3 d s).2.2.2.2.2.2.2.2.2.1
  · exact (hg3 d s).2.2.2.2.2.2.2.2.2.2.1
  · exact (hg3 d s).2.2.2.2.2.2.2.2.2.2.2.1
  · exact (hg3 d s).2.2.2.2.2.2.2.2.2.2.2.2
  · exact (hg4 d s).1
  · exact (hg4 d s).2.1
  · exact (hg4 d s).2.2.1
  · exact (hg4 d s).2.2.2.1
  · exact (hg4 d s).2.2.2.2.1
  · exact (hg4 d s).2.2.2.2.2.1
  · exact (hg4 d s).2.2.2.2.2.2.1
  · exact (hg4 d s).2.2.2.2.2.2.2.1
  · exact (hg4 d s).2.2.2.2.2.2.2.2.1
  · exact (hg4 d s).2.2.2.2.2.2.2.2.2.1
  · exact (hg4 d s).2.2.2.2.2.2.2.2.2.2.1
  · exact (hg4 d s).2.2.2.2.2.2.2.2.2.2.2.1
  · exact (hg4 d s).2.2.2.2.2.2.2.2.2.2.2.2.1
  · exact (hg4 d s).2.2.2.2.2.2.2.2.2.2.2.2.2
  · exact (hg5 d s).1
  · exact (hg5 d s).2.1
  · exact (hg5 d s).2.2.1
  · exact (hg5 d s).2.2.2.1
  · exact (hg5 d s).2.2.2.2.1
  · exact (hg5 d s).2.2.2.2.2.1
  · exact (hg5 d s).2.2.2.2.2.2.1
  · exact (hg5 d s).2.2.2.2.2.2.2.1
  · exact (hg5 d s).2.2.2.2.2.2.2.2.1
  · exact (hg5 d s).2.2.2.2.2.2.2.2.2.1
  · exact (hg5 d s).2.2.2.2.2.2.2.2.2.2.1
  · exact (hg5 d s).2.2.2.2.2.2.2.2.2.2.2.1
  · exact (hg5 d s).2.2.2.2.2.2.2.2.2.2.2.2.1
  · exact (hg5 d s).2.2.2.2.2.2.2.2.2.2.2.2.2
def headsE (H : Heap) (args : List Value) : ER :=
  match args with
  | [.int .i64 op, .int .i64 d, .int .i64 s] => .tst ((hd op d s).n == 0) (.val nilHd) (.tst ((hd op d s).n == 1) (aggNew H [.int .u8 (hd op d s).b0] 5 (.int .i64 (hd op d s).t)) (aggNew H [.int .u8 (hd op d s).b0, .int .u8 (hd op d s).b1] 5 (.int .i64 (hd op d s).t)))
  | _ => .no
theorem nilHd_plain : plain nilHd = true := rfl
theorem heads_good (H : Heap) (args : List Value) : HGood Try.prog 40 args H (headsE H args) := by
  unfold headsE
  split
  · rename_i op d s
    refine ⟨fun h => ?_, fun h => ⟨fun h1 => ?_, fun h1 => ?_⟩⟩
    · have h := beq_iff_eq.1 h
      rcases heads_all op d s with ⟨_, k⟩ | ⟨e, _⟩ | ⟨e, _⟩
      · exact HGood_val (by simp [plain, plainL]) nilHd_plain (fun w => calls_plain (by simp [VRL, VR]) (fun ρ v' h => plain_eq nilHd_plain h) k w) H
      · omega
      · omega
    · have h1 := beq_iff_eq.1 h1
      rcases heads_all op d s with ⟨e, _⟩ | ⟨_, r, k⟩ | ⟨e, _⟩
      · omega
      · exact aggNew_good (r := r) (by simp [plain, plainL]) (by simp [plain]) (by simp [plain, plainL]) (by unfold capU; simp) k H
      · omega
    · have h := beq_eq_false_iff_ne.1 h
      have h1 := beq_eq_false_iff_ne.1 h1
      rcases heads_all op d s with ⟨e, _⟩ | ⟨e, _⟩ | ⟨_, r, k⟩
      · omega
      · omega
      · exact aggNew_good (r := r) (by simp [plain, plainL]) (by simp [plain]) (by simp [plain, plainL]) (by unfold capU; simp) k H
  · exact trivial
end Go.Proofs.Ytnknopebjdgdjaa.Isa
namespace Go.Proofs.Ytnknopebjdgdjaa.Isa
open Go Go.Ly Go.RowKit
def eq41H (n m : Nat) (f g : Nat → Int) : List (Option LO) := [some (ints .u8 f n), some (ints .u8 g m)]
def eq41D : St := Ly.start Try.f41 [] H0
def eq41K : List KI := ((Ly.run env.bare 24 [] (Ly.start Try.f41 [sl 0 0, sl 1 0] (mkH (eq41H 0 0 (fun _ => 0) (fun _ => 0))))).st eq41D).top.k
def eq41V (n m : Nat) (i : Int) : List Value := slots 26 [(0, sl 0 n), (1, sl 1 m), (12, .int .i64 (n : Int)), (13, .int .i64 i)]
theorem eq41get : env.bare.fn.get 41 = some Try.f41 := by kernel_rfl
theorem eq410 (n m : Nat) (f g : Nat → Int) : headAt [0, 1, 12, 13] [0, 1] eq41D (Ly.run env.bare 24 [(0, false)] (Ly.start Try.f41 [sl 0 n, sl 1 m] (mkH (eq41H n m f g)))) = (true, [((n : Int) != (m : Int), false)], true, (Try.f41, eq41K, none, 2), eq41V n m 0, eq41H n m f g) := by kernel_rfl
theorem eq41N (n m : Nat) (f g : Nat → Int) : (Ly.run env.bare 200 [(0, true)] (Ly.start Try.f41 [sl 0 n, sl 1 m] (mkH (eq41H n m f g)))).end? = some ([((n : Int) != (m : Int), true)], .bool false, mkH (eq41H n m f g)) := by kernel_rfl
theorem eq41I (n m : Nat) (f g : Nat → Int) (i : Int) : headAt [0, 1, 12, 13] [0, 1] eq41D (Ly.run env.bare 24 [(0, true), (0, true), (0, true), (0, true), (0, true), (0, false)] (mkSt Try.f41 eq41K none 2 (eq41V n m i) (eq41H n m f g))) = (true, [(decide (i < (n : Int)), true), (decide (0 ≤ i) && decide (i < (n : Int)), true), (Nat.blt (0 + i.toNat * 1) n, true), (decide (0 ≤ i) && decide (i < (m : Int)), true), (Nat.blt (0 + i.toNat * 1) m, true), (f (0 + i.toNat * 1) != g (0 + i.toNat * 1), false)], true, (Try.f41, eq41K, none, 2), eq41V n m (IntKind.i64.wrap (i + 1)), eq41H n m f g) := by kernel_rfl
theorem eq41T (n m : Nat) (f g : Nat → Int) (i : Int) : (Ly.run env.bare 200 [(0, false)] (mkSt Try.f41 eq41K none 2 (eq41V n m i) (eq41H n m f g))).out? = some ([(decide (i < (n : Int)), false)], .bool true) := by kernel_rfl
theorem eq41E (n m : Nat) (f g : Nat → Int) (i : Int) : (Ly.run env.bare 200 [(0, true), (0, true), (0, true), (0, true), (0, true), (0, true)] (mkSt Try.f41 eq41K none 2 (eq41V n m i) (eq41H n m f g))).out? = some ([(decide (i < (n : Int)), true), (decide (0 ≤ i) && decide (i < (n : Int)), true), (Nat.blt (0 + i.toNat * 1) n, true), (decide (0 ≤ i) && decide (i < (m : Int)), true), (Nat.blt (0 + i.toNat * 1) m, true), (f (0 + i.toNat * 1) != g (0 + i.toNat * 1), true)], .bool false) := by kernel_rfl
theorem eq41P (n m : Nat) (f g : Nat → Int) : ∀ o ∈ eq41H n m f g, ∀ x, o = some x → plainO x := by
  intro o ho x hx
  simp only [eq41H, List.mem_cons, List.not_mem_nil, or_false] at ho
  rcases ho with rfl | rfl <;> (simp only [Option.some.injEq] at hx; subst hx; exact plain_ints)
theorem eq41loop (n : Nat) (f g : Nat → Int) (hn : n ≤ 9223372036854775807) : ∀ (d : Nat) (i : Int), 0 ≤ i → i ≤ n → ((n : Int) - i).toNat = d → (∀ e : Nat, (e : Int) < i → f e = g e) →
    MWp Try.prog (mkSt Try.f41 eq41K none 2 (eq41V n n i) (eq41H n n f g)) (fun v _ => v = .bool (eqU n f g))
  | 0, i, h0, h1, hd, he => by
    have hi : i = n := by omega
    refine MWp.out (Env.bare_ok envOk) 200 _ (eq41T n n f g i) (by simp [trusted]; omega) ?_
    intro _; rw [eqU_true (fun e h => he e (by omega))]
  | d + 1, i, h0, h1, hd, he => by
    have hi : i < n := by omega
    have ht : 0 + i.toNat * 1 = i.toNat := by omega
    have hlt : Nat.blt i.toNat n = true := by rw [Nat.blt_eq]; omega
    by_cases hf : f i.toNat = g i.toNat
    · refine MWp.head (Env.bare_ok envOk) _ _ _ _ (eq41I n n f g i) (by rw [ht]; simp [trusted, hf, hlt, hi, h0]) (eq41P n n f g) ?_
      have hw : IntKind.i64.wrap (i + 1) = i + 1 := by rw [IntKind.wrap_i64]; omega
      rw [hw]
      refine eq41loop n f g hn d (i + 1) (by omega) (by omega) (by omega) (fun e h => ?_)
      by_cases h2 : (e : Int) = i
      · have : e = i.toNat := by omega
        rw [this]; exact hf
      · exact he e (by omega)
    · refine MWp.out (Env.bare_ok envOk) 200 _ (eq41E n n f g i) (by rw [ht]; simp [trusted, hf, hlt, hi, h0]) ?_
      intro _; rw [eqU_false (e := i.toNat) (by omega) hf]
theorem eq41SS (n m : Nat) (f g : Nat → Int) (hn : n ≤ 9223372036854775807) : LCalls Try.prog 41 [sl 0 n, sl 1 m] (mkH [some (ints .u8 f n), some (ints .u8 g m)]) (fun u _ => u = .bool (Nat.beq n m && eqU n f g)) := by
  refine LCalls_of (Env.bare_ok envOk) eq41get (by kernel_rfl) ?_
  by_cases h : n = m
  · subst h
    refine MWp.head (Env.bare_ok envOk) _ _ _ _ (eq410 n n f g) (by simp [trusted]) (eq41P n n f g) ?_
    refine (eq41loop n f g hn _ 0 (by omega) (by omega) rfl (fun e h => by omega)).mono ?_
    rintro v H rfl
    simp
  · refine MWp.done (Env.bare_ok envOk) 200 _ (eq41N n m f g) (by simp [trusted]; omega) ?_
    have : Nat.beq n m = false := by
      cases hb : Nat.beq n m with
      | false => rfl
      | true => exact absurd (Nat.eq_of_beq_eq_true hb) h
    rw [this]; rfl
theorem eq41a (m : Nat) (q : Nat → Int) (b : Bool) : (Ly.run env.bare 200 [(0, b)] (Ly.start Try.f41 [.slice none 0 0, sl 0 m] (mkH [some (ints .u8 q m)]))).out? = some ([((0 : Int) != (m : Int), b)], .bool (!b)) := by cases b <;> kernel_rfl
theorem eq41NS (m : Nat) (q : Nat → Int) : LCalls Try.prog 41 [.slice none 0 0, sl 0 m] (mkH [some (ints .u8 q m)]) (fun u _ => u = .bool (Nat.beq 0 m)) := by
  by_cases h : m = 0
  · subst h
    exact LCalls_trust (Env.bare_ok envOk) 200 _ eq41get (by kernel_rfl) (eq41a 0 q false) (by simp [trusted])
  · have hb : Nat.beq 0 m = false := by rcases m with _ | m; exact absurd rfl h; rfl
    rw [hb]
    exact LCalls_trust (Env.bare_ok envOk) 200 _ eq41get (by kernel_rfl) (eq41a m q true) (by simp [trusted]; omega)
theorem eq41b (n : Nat) (q : Nat → Int) : (Ly.run env.bare 200 [(0, true)] (Ly.start Try.f41 [sl 0 n, .slice none 0 0] (mkH [some (ints .u8 q n)]))).out? = some ([((n : Int) != 0, true)], .bool false) := by kernel_rfl
theorem eq41c (q : Nat → Int) : (Ly.run env.bare 200 [] (Ly.start Try.f41 [sl 0 0, .slice none 0 0] (mkH [some (ints .u8 q 0)]))).out? = some ([], .bool true) := by kernel_rfl
theorem eq41SN (n : Nat) (p : Nat → Int) : LCalls Try.prog 41 [sl 0 n, .slice none 0 0] (mkH [some (ints .u8 p n)]) (fun u _ => u = .bool (Nat.beq n 0)) := by
  by_cases h : n = 0
  · subst h
    exact LCalls_trust (Env.bare_ok envOk) 200 _ eq41get (by kernel_rfl) (eq41c p) trivial
  · have hb : Nat.beq n 0 = false := by rcases n with _ | n; exact absurd rfl h; rfl
    rw [hb]
    exact LCalls_trust (Env.bare_ok envOk) 200 _ eq41get (by kernel_rfl) (eq41b n p) (by simp [trusted]; omega)
theorem eq41NN : LCalls Try.prog 41 [.slice none 0 0, .slice none 0 0] (mkH []) (fun u _ => u = .bool true) :=
  LCalls_trust (v := .bool true) (Env.bare_ok envOk) 200 [] eq41get (by kernel_rfl) (t := []) (by kernel_rfl) trivial
theorem eq41con : ∀ args ρ args' w H, VRL ρ args args' → Rep ρ H w → ConGood Try.prog ρ 41 args' w (conEq .u8 H args) := conEq_good eq41SS eq41NS eq41SN eq41NN
end Go.Proofs.Ytnknopebjdgdjaa.Isa
namespace Go.Proofs.Ytnknopebjdgdjaa.Isa
open Go Go.Ly Go.RowKit
def sizeH (n : Nat) (t : Int) : Int := bif t == 1 || t == 3 then IntKind.i64.wrap ((n : Int) + 1) else bif t == 2 then IntKind.i64.wrap ((n : Int) + 2) else n
def conSize (l : List Value) : Option (Bool × Value) := match l with
  | [.agg ⟨[.slice _ n _, .int .i64 t]⟩] => some (decide (0 ≤ t) && decide (t < 4), .int .i64 (sizeH n t))
  | _ => none
theorem get42 : env.bare.fn.get 42 = some Try.f42 := by kernel_rfl
theorem size_none (n c : Nat) : ∀ t : Fin 4, (Ly.run env.bare 300 [] (Ly.start Try.f42 [.agg ⟨[.slice none n c, .int .i64 (t.val : Int)]⟩] (mkH []))).out? = some ([], .int .i64 (sizeH n (t.val : Int)))
  | ⟨0, _⟩ => by kernel_rfl
  | ⟨1, _⟩ => by kernel_rfl
  | ⟨2, _⟩ => by kernel_rfl
  | ⟨3, _⟩ => by kernel_rfl
theorem size_some (o n c : Nat) (s : Option Nat) : ∀ t : Fin 4, (Ly.run env.bare 300 [] (Ly.start Try.f42 [.agg ⟨[.slice (some ⟨0, o, s⟩) n c, .int .i64 (t.val : Int)]⟩] (mkH [none]))).out? = some ([], .int .i64 (sizeH n (t.val : Int)))
  | ⟨0, _⟩ => by kernel_rfl
  | ⟨1, _⟩ => by kernel_rfl
  | ⟨2, _⟩ => by kernel_rfl
  | ⟨3, _⟩ => by kernel_rfl
theorem ans42 : AnswersR Try.prog 42 conSize := by
  intro args g v h hg
  unfold conSize at h
  split at h
  · rename_i a n c t
    simp only [Option.some.injEq, Prod.mk.injEq] at h
    obtain ⟨rfl, rfl⟩ := h
    simp only [Bool.and_eq_true, decide_eq_true_eq] at hg
    obtain ⟨m, rfl⟩ := Int.eq_ofNat_of_zero_le hg.1
    refine ⟨by simp [plain], fun ρ args' w H ha hr => ?_⟩
    cases a with
    | none => exact calls_blind (L := []) (by simp) (LCalls_trust (Env.bare_ok envOk) 300 [] get42 (by kernel_rfl) (size_none n c ⟨m, by omega⟩) trivial) (by simp [plain]) (by simp [blksL, blks]) (by simp [renL, renV]) ha hr
    | some a => exact calls_blind (L := [a.block]) (by simp) (LCalls_trust (Env.bare_ok envOk) 300 [] get42 (by kernel_rfl) (size_some a.off n c a.spot ⟨m, by omega⟩) trivial) (by simp [plain]) (by simp [blksL, blks, memB]) (by simp [renL, renV, posOf]) ha hr
  · cases h
def nctx : Ctx := (env.bare.with 42 conSize).withC 41 (conEq .u8)
theorem nok : nctx.Ok Try.prog := ((Env.bare_ok envOk).withR ans42).withC eq41con
end Go.Proofs.Ytnknopebjdgdjaa.Isa
namespace Go.Proofs.Ytnknopebjdgdjaa.Isa
open Go Go.Ly Go.RowKit
def byT (t : Int) (f : Int → ER) : ER := .tst (t == 0) (f 0) (.tst (t == 1) (f 1) (.tst (t == 2) (f 2) (.tst (t == 3) (f 3) .no)))
theorem byT_good {f : Nat} {args : List Value} {H : Heap} {t : Int} {g : Int → ER} (h : HGood Try.prog f args H (g t)) : HGood Try.prog f args H (byT t g) := by
  refine ⟨fun e => ?_, fun _ => ⟨fun e => ?_, fun _ => ⟨fun e => ?_, fun _ => ⟨fun e => ?_, fun _ => trivial⟩⟩⟩⟩ <;>
  · have e := beq_iff_eq.1 e
    rw [e] at h; exact h
def headsF (H : Heap) (args : List Value) : ER :=
  match args with
  | [.int .i64 op, .int .i64 d, .int .i64 s] => .tst ((hd op d s).n == 0) (.val nilHd) (.tst ((hd op d s).n == 1) (byT (hd op d s).t fun t => aggNew H [.int .u8 (hd op d s).b0] 5 (.int .i64 t)) (byT (hd op d s).t fun t => aggNew H [.int .u8 (hd op d s).b0, .int .u8 (hd op d s).b1] 5 (.int .i64 t)))
  | _ => .no
theorem headsF_good (H : Heap) (args : List Value) : HGood Try.prog 40 args H (headsF H args) := by
  unfold headsF
  split
  · rename_i op d s
    have k := heads_good H [.int .i64 op, .int .i64 d, .int .i64 s]
    refine ⟨fun h => k.1 h, fun h => ⟨fun h1 => byT_good ((k.2 h).1 h1), fun h1 => byT_good ((k.2 h).2 h1)⟩⟩
  · exact trivial
def ctxF : Ctx := nctx.withH 40 headsF
theorem ctxF_ok : ctxF.Ok Try.prog := nok.withH headsF_good
def nearN (n : Int) : Bool := decide (n ≤ 127) || decide (65408 ≤ n)
def rk (op d s n : Int) : Int := bif (hd op d s).n == 0 then 12 else bif (((hd op d s).t == 0) && (n != 0)) || ((((hd op d s).t == 1) && decide (255 < n)) || (((hd op d s).t == 3) && !(nearN n))) then 5 else 0
def lenB (op d s : Int) : Nat := (bif (hd op d s).n == 1 then 1 else 2) + (bif (hd op d s).t == 0 then 0 else bif (hd op d s).t == 2 then 2 else 1)
theorem hd_t {op d s : Int} (h : (hd op d s).n ≠ 0) : 0 ≤ (hd op d s).t ∧ (hd op d s).t ≤ 3 := by
  by_cases h1 : (hd op d s).n = 1
  · exact (hd_one h1).2.1
  · have := (hd_two h h1).2.2.2.1; omega
end Go.Proofs.Ytnknopebjdgdjaa.Isa
namespace Go.Proofs.Ytnknopebjdgdjaa.Isa
open Go Go.Ly Go.RowKit
def ctxD : Ctx := ctxF.with 39 guessC
theorem ctxD_ok : ctxD.Ok Try.prog := ctxF_ok.with guess_ans
end Go.Proofs.Ytnknopebjdgdjaa.Isa
namespace Go.Proofs.Ytnknopebjdgdjaa.Isa
open Go Go.Ly Go.RowKit
structure R6 where
  op : Int
  d : Int
  s : Int
  n : Int
  l : Int
  k : Int
def r6V (r : R6) : Value := .tuple ⟨[.agg ⟨[.int .i64 r.op, .int .i64 r.d, .int .i64 r.s, .int .u16 r.n]⟩, .int .i64 r.l, .int .i64 r.k]⟩
def rS : R6 := ⟨0, 0, 0, 0, 0, 2⟩
def rF : R6 := ⟨0, 0, 0, 0, 0, 12⟩
def mt (T : T3) (a m : Int) : Bool := ((hd T.op T.d T.s).n != 0) && (((hd T.op T.d T.s).b0 == a) && (((hd T.op T.d T.s).n == 1) || ((hd T.op T.d T.s).b1 == m)))
def rim (t : Int) (k : Nat) (f : Nat → Int) : Int := bif t == 0 then 0 else bif t == 1 then IntKind.u16.wrap (f k) else bif t == 2 then bits .or .u16 (IntKind.u16.wrap (f k)) (IntKind.u16.wrap (IntKind.u16.wrap (f (k + 1)) * 256)) else IntKind.u16.wrap (IntKind.i8.wrap (f k))
def rdS (T : T3) (f : Nat → Int) (n : Nat) : R6 := bif Nat.blt n (lenB T.op T.d T.s) then rS else ⟨T.op, T.d, T.s, rim (hd T.op T.d T.s).t (bif (hd T.op T.d T.s).n == 1 then 1 else 2) f, lenB T.op T.d T.s, 0⟩
def sc1 (f : Nat → Int) : Nat → Int → R6
  | 0, _ => rF
  | k + 1, m => bif mt (gs (f 0) m) (f 0) m then rdS (gs (f 0) m) f 1 else sc1 f k (m + 1)
def rd2 (n : Nat) (f : Nat → Int) : R6 := bif mt (gs (f 0) (f 1)) (f 0) (f 1) then rdS (gs (f 0) (f 1)) f n else rF
def rd (n : Nat) (f : Nat → Int) : R6 := bif Nat.beq n 0 then rS else bif Nat.beq n 1 then sc1 f 256 0 else rd2 n f
theorem rdS_short {T : T3} (f : Nat → Int) {n : Nat} (h : n < lenB T.op T.d T.s) : rdS T f n = rS := by
  unfold rdS
  have : Nat.blt n (lenB T.op T.d T.s) = true := by rw [Nat.blt_eq]; exact h
  rw [this]; rfl
theorem rdS_long {T : T3} (f : Nat → Int) {n : Nat} (h : lenB T.op T.d T.s ≤ n) : rdS T f n = ⟨T.op, T.d, T.s, rim (hd T.op T.d T.s).t (bif (hd T.op T.d T.s).n == 1 then 1 else 2) f, lenB T.op T.d T.s, 0⟩ := by
  unfold rdS
  have : Nat.blt n (lenB T.op T.d T.s) = false := by
    cases hb : Nat.blt n (lenB T.op T.d T.s) with
    | false => rfl
    | true => rw [Nat.blt_eq] at hb; omega
  rw [this]; rfl
def tl (c : Int) : Nat := bif c == 0 then 0 else bif c == 2 then 2 else 1
def l0 (b : Bool) : Nat := bif b then 1 else 2
theorem lenB_at {T : T3} {b : Bool} {c : Int} (h1 : ((hd T.op T.d T.s).n == 1) = b) (ht : ((hd T.op T.d T.s).t == c) = true) : lenB T.op T.d T.s = l0 b + tl c := by
  unfold lenB; rw [h1, beq_iff_eq.1 ht]; rfl
theorem rdS_S {T : T3} {b : Bool} {c : Int} {f : Nat → Int} {n : Nat} (h1 : ((hd T.op T.d T.s).n == 1) = b) (ht : ((hd T.op T.d T.s).t == c) = true) (hn : n < l0 b + tl c) : rdS T f n = rS := rdS_short f (by rw [lenB_at h1 ht]; exact hn)
theorem rdS_L {T : T3} {b : Bool} {c : Int} {f : Nat → Int} {n : Nat} (h1 : ((hd T.op T.d T.s).n == 1) = b) (ht : ((hd T.op T.d T.s).t == c) = true) (hn : l0 b + tl c ≤ n) : rdS T f n = ⟨T.op, T.d, T.s, rim c (l0 b) f, (l0 b + tl c : Nat), 0⟩ := by
  rw [rdS_long f (by rw [lenB_at h1 ht]; exact hn), lenB_at h1 ht, h1, beq_iff_eq.1 ht]; rfl
section
variable {T : T3} {a m : Int}
theorem t_3 (h0 : ((hd T.op T.d T.s).n == 0) = false) (a0 : ((hd T.op T.d T.s).t == 0) = false) (a1 : ((hd T.op T.d T.s).t == 1) = false) (a2 : ((hd T.op T.d T.s).t == 2) = false) : ((hd T.op T.d T.s).t == 3) = true := by
  simp only [beq_eq_false_iff_ne, ne_eq, beq_iff_eq] at *
  have := hd_t h0
  omega
theorem mt_n0 (h : ((hd T.op T.d T.s).n == 0) = true) : mt T a m = false := by
  unfold mt; rw [beq_iff_eq.1 h]; rfl
theorem mt_b0 (h : ((!(true && ((hd T.op T.d T.s).b0 == a && true))) == false) = false) : mt T a m = false := by
  unfold mt
  cases e : ((hd T.op T.d T.s).b0 == a) with
  | true => rw [e] at h; cases h
  | false => cases ((hd T.op T.d T.s).n != 0) <;> rfl
theorem mt_b1 (h1 : ((hd T.op T.d T.s).n == 1) = false) (h : ((hd T.op T.d T.s).b1 != m) = true) : mt T a m = false := by
  unfold mt
  have : ((hd T.op T.d T.s).b1 == m) = false := by
    cases e : ((hd T.op T.d T.s).b1 == m) with
    | true => simp only [bne, e] at h; cases h
    | false => rfl
  rw [this, h1]
  cases ((hd T.op T.d T.s).n != 0) <;> cases ((hd T.op T.d T.s).b0 == a) <;> rfl
theorem mt_1 (h0 : ((hd T.op T.d T.s).n == 0) = false) (h1 : ((hd T.op T.d T.s).n == 1) = true) (h : ((!(true && ((hd T.op T.d T.s).b0 == a && true))) == false) = true) : mt T a m = true := by
  unfold mt
  rw [h1]; simp only [bne, h0]
  cases e : ((hd T.op T.d T.s).b0 == a) with
  | false => rw [e] at h; cases h
  | true => rfl
theorem mt_2 (h0 : ((hd T.op T.d T.s).n == 0) = false) (h : ((!(true && ((hd T.op T.d T.s).b0 == a && true))) == false) = true) (hm : ((hd T.op T.d T.s).b1 != m) = false) : mt T a m = true := by
  unfold mt
  have : ((hd T.op T.d T.s).b1 == m) = true := by simpa using hm
  rw [this]; simp only [bne, h0]
  cases e : ((hd T.op T.d T.s).b0 == a) with
  | false => rw [e] at h; cases h
  | true => cases ((hd T.op T.d T.s).n == 1) <;> rfl
theorem mt_bm (h : ((!(true && ((hd T.op T.d T.s).b0 == a && ((hd T.op T.d T.s).b1 == m && true)))) == false) = true) : ((hd T.op T.d T.s).b1 != m) = false := by
  cases e : ((hd T.op T.d T.s).b1 == m) with
  | true => simp only [bne, e]; rfl
  | false => rw [e] at h; cases e2 : ((hd T.op T.d T.s).b0 == a) <;> (rw [e2] at h; cases h)
theorem mt_bt (h0 : ((hd T.op T.d T.s).n == 0) = false) (h : ((!(true && ((hd T.op T.d T.s).b0 == a && ((hd T.op T.d T.s).b1 == m && true)))) == false) = true) : mt T a m = true := by
  refine mt_2 h0 ?_ (mt_bm h)
  cases e : ((hd T.op T.d T.s).b0 == a) with
  | true => rfl
  | false => rw [e] at h; cases h
theorem mt_bf (h1 : ((hd T.op T.d T.s).n == 1) = false) (h : ((!(true && ((hd T.op T.d T.s).b0 == a && ((hd T.op T.d T.s).b1 == m && true)))) == false) = false) : mt T a m = false := by
  cases e : ((hd T.op T.d T.s).b0 == a) with
  | false => exact mt_b0 (by rw [e]; rfl)
  | true =>
    cases e2 : ((hd T.op T.d T.s).b1 == m) with
    | false => exact mt_b1 h1 (by simp only [bne, e2]; rfl)
    | true => rw [e, e2] at h; cases h
end
end Go.Proofs.Ytnknopebjdgdjaa.Isa
namespace Go.Proofs.Ytnknopebjdgdjaa.Isa
open Go Go.Ly Go.RowKit
abbrev hg (a m : Int) : Hd := hd (gs a m).op (gs a m).d (gs a m).s
abbrev st8 (n : Nat) (f : Nat → Int) : St := Ly.start Try.f31 [sl 0 n] (mkH [some (ints .u8 f n)])
end Go.Proofs.Ytnknopebjdgdjaa.Isa
end
