/- form, by a table, as a contract. By program (genzt.py). -/
import Derived.Test.YtkoeiednpbedlaaDoorZt0
import Derived.Test.YtkoeiednpbedlaaDoorZt1
import Derived.Test.YtkoeiednpbedlaaDoorZt2
import Derived.Test.YtkoeiednpbedlaaDoorZt3
import Derived.Test.YtkoeiednpbedlaaDoorZt4
import Derived.Test.YtkoeiednpbedlaaDoorZt5
import Derived.Test.YtkoeiednpbedlaaDoorZt6
import Derived.Test.YtkoeiednpbedlaaDoorZt7
import Derived.KernelRfl
namespace Go.Proofs.YtkoeiednpbedlaaDoor
open Go Go.Ly Go.RowKit
set_option linter.unusedVariables false
set_option linter.unusedSimpArgs false
noncomputable def formT : List (Nat × Nat × List Value) := [(2, 1, fw0), (3, 2, fw1), (3, 2, fw2), (3, 2, fw3), (3, 2, fw4), (3, 2, fw5), (3, 2, fw6), (3, 2, fw7), (0, 0, []), (3, 2, fw9), (3, 2, fw10), (3, 2, fw11), (3, 2, fw12), (3, 2, fw13), (3, 2, fw14), (3, 2, fw15), (0, 0, []), (3, 2, fw17), (3, 2, fw18), (3, 2, fw19), (3, 2, fw20), (3, 2, fw21), (3, 2, fw22), (3, 2, fw23), (0, 0, []), (3, 2, fw25), (3, 2, fw26), (3, 2, fw27), (3, 2, fw28), (3, 2, fw29), (3, 2, fw30), (3, 2, fw31), (0, 0, []), (3, 2, fw33), (3, 2, fw34), (3, 2, fw35), (3, 2, fw36), (3, 2, fw37), (3, 2, fw38), (3, 2, fw39), (0, 0, []), (3, 2, fw41), (3, 2, fw42), (3, 2, fw43), (3, 2, fw44), (3, 2, fw45), (3, 2, fw46), (3, 2, fw47), (0, 0, []), (3, 2, fw49), (3, 2, fw50), (3, 2, fw51), (3, 2, fw52), (3, 2, fw53), (3, 2, fw54), (3, 2, fw55), (0, 0, []), (3, 2, fw57), (3, 2, fw58), (3, 2, fw59), (3, 2, fw60), (3, 2, fw61), (3, 2, fw62), (3, 2, fw63), (4, 3, fw64), (4, 3, fw65), (4, 3, fw66), (4, 3, fw67), (4, 3, fw68), (4, 3, fw69), (4, 3, fw70), (4, 3, fw71), (4, 3, fw72), (4, 3, fw73), (4, 3, fw74), (4, 3, fw75), (4, 3, fw76), (4, 3, fw77), (4, 3, fw78), (4, 3, fw79), (4, 3, fw80), (4, 3, fw81), (4, 3, fw82), (4, 3, fw83), (4, 3, fw84), (4, 3, fw85), (4, 3, fw86), (4, 3, fw87), (4, 3, fw88), (4, 3, fw89), (4, 3, fw90), (4, 3, fw91), (4, 3, fw92), (4, 3, fw93), (4, 3, fw94), (4, 3, fw95), (4, 3, fw96), (4, 3, fw97), (4, 3, fw98), (4, 3, fw99), (4, 3, fw100), (4, 3, fw101), (4, 3, fw102), (4, 3, fw103), (4, 3, fw104), (4, 3, fw105), (4, 3, fw106), (4, 3, fw107), (4, 3, fw108), (4, 3, fw109), (4, 3, fw110), (4, 3, fw111), (4, 3, fw112), (4, 3, fw113), (4, 3, fw114), (4, 3, fw115), (4, 3, fw116), (4, 3, fw117), (2, 1, fw118), (4, 3, fw119), (4, 3, fw120), (4, 3, fw121), (4, 3, fw122), (4, 3, fw123), (4, 3, fw124), (4, 3, fw125), (4, 3, fw126), (4, 3, fw127), (4, 3, fw128), (4, 3, fw129), (4, 3, fw130), (4, 3, fw131), (4, 3, fw132), (4, 3, fw133), (4, 3, fw134), (4, 3, fw135), (4, 3, fw136), (4, 3, fw137), (4, 3, fw138), (4, 3, fw139), (4, 3, fw140), (4, 3, fw141), (4, 3, fw142), (4, 3, fw143), (4, 3, fw144), (4, 3, fw145), (4, 3, fw146), (4, 3, fw147), (4, 3, fw148), (4, 3, fw149), (4, 3, fw150), (4, 3, fw151), (4, 3, fw152), (4, 3, fw153), (4, 3, fw154), (4, 3, fw155), (4, 3, fw156), (4, 3, fw157), (4, 3, fw158), (4, 3, fw159), (4, 3, fw160), (4, 3, fw161), (4, 3, fw162), (4, 3, fw163), (4, 3, fw164), (4, 3, fw165), (4, 3, fw166), (4, 3, fw167), (4, 3, fw168), (4, 3, fw169), (4, 3, fw170), (4, 3, fw171), (4, 3, fw172), (4, 3, fw173), (4, 3, fw174), (4, 3, fw175), (4, 3, fw176), (4, 3, fw177), (4, 3, fw178), (4, 3, fw179), (4, 3, fw180), (4, 3, fw181), (4, 3, fw182), (4, 3, fw183), (4, 3, fw184), (4, 3, fw185), (4, 3, fw186), (4, 3, fw187), (4, 3, fw188), (4, 3, fw189), (4, 3, fw190), (4, 3, fw191), (5, 4, fw192), (3, 2, fw193), (5, 4, fw194), (3, 2, fw195), (5, 4, fw196), (3, 2, fw197), (4, 3, fw198), (5, 4, fw199), (5, 4, fw200), (4, 3, fw201), (5, 4, fw202), (0, 0, []), (5, 4, fw204), (3, 2, fw205), (4, 3, fw206), (5, 4, fw207), (5, 4, fw208), (3, 2, fw209), (5, 4, fw210), (4, 3, fw211), (5, 4, fw212), (3, 2, fw213), (4, 3, fw214), (5, 4, fw215), (5, 4, fw216), (0, 0, []), (5, 4, fw218), (4, 3, fw219), (5, 4, fw220), (0, 0, []), (4, 3, fw222), (5, 4, fw223), (5, 4, fw224), (3, 2, fw225), (5, 4, fw226), (4, 3, fw227), (5, 4, fw228), (3, 2, fw229), (4, 3, fw230), (5, 4, fw231), (5, 4, fw232), (4, 3, fw233), (5, 4, fw234), (4, 3, fw235), (5, 4, fw236), (0, 0, []), (4, 3, fw238), (5, 4, fw239), (5, 4, fw240), (3, 2, fw241), (5, 4, fw242), (4, 3, fw243), (5, 4, fw244), (3, 2, fw245), (4, 3, fw246), (5, 4, fw247), (5, 4, fw248), (4, 3, fw249), (5, 4, fw250), (4, 3, fw251), (5, 4, fw252), (0, 0, []), (4, 3, fw254), (5, 4, fw255)]
noncomputable def formK (H : Heap) (k : Nat) : ER := match formT[k]? with
  | some (nx, r, c) => bif Nat.beq nx 0 then .val (.slice none 0 0) else freshE H nx r c 9 (.slice (some ⟨r, 0, none⟩) c.length c.length)
  | none => .no
noncomputable def formE (H : Heap) (args : List Value) : ER := match args with
  | [.int .u8 (.ofNat k)] => formK H k
  | _ => .no
theorem gFm : zctx3.fn.get 22 = some Tryd.f22 := by kernel_rfl
theorem fm_nil {k : Nat} (h : (Ly.run zctx3 6000 [] (Ly.start Tryd.f22 [.int .u8 (Int.ofNat k)] H0)).out? = some ([], .slice none 0 0)) (hk : ∀ H, formK H k = .val (.slice none 0 0)) (H : Heap) : HGood Tryd.prog 22 [.int .u8 (Int.ofNat k)] H (formK H k) := by
  rw [hk]
  exact HGood_val (by simp [plainL, plain]) (by simp [plain]) (fun w => calls_trust zctx3_ok 6000 [] gFm (by kernel_rfl) (by simp [plainL, plain]) (by simp [plain]) h trivial w) H
theorem fm_row {k nx r : Nat} {c : List Value} (h : ((Ly.run zctx3 6000 [] (Ly.start Tryd.f22 [.int .u8 (Int.ofNat k)] H0)).end?.map fun x => (x.1, x.2.1, x.2.2.next, x.2.2.get r)) = some ([], .slice (some ⟨r, 0, none⟩) c.length c.length, nx, some (LO.cells c 9)))
    (hr : r < nx) (hc : plainL c = true) (hk : ∀ H, formK H k = freshE H nx r c 9 (.slice (some ⟨r, 0, none⟩) c.length c.length)) (H : Heap) : HGood Tryd.prog 22 [.int .u8 (Int.ofNat k)] H (formK H k) := by
  rw [hk]
  exact freshE_good (by simp [plainL, plain]) hr hc (LCalls_end zctx3_ok 6000 [] gFm (by kernel_rfl) h trivial) H
theorem fg0 (H : Heap) : HGood Tryd.prog 22 [.int .u8 (Int.ofNat 0)] H (formK H 0) := fm_row fm0 (by decide) (by rfl) (fun _ => rfl) H
theorem fg1 (H : Heap) : HGood Tryd.prog 22 [.int .u8 (Int.ofNat 1)] H (formK H 1) := fm_row fm1 (by decide) (by rfl) (fun _ => rfl) H
theorem fg2 (H : Heap) : HGood Tryd.prog 22 [.int .u8 (Int.ofNat 2)] H (formK H 2) := fm_row fm2 (by decide) (by rfl) (fun _ => rfl) H
theorem fg3 (H : Heap) : HGood Tryd.prog 22 [.int .u8 (Int.ofNat 3)] H (formK H 3) := fm_row fm3 (by decide) (by rfl) (fun _ => rfl) H
theorem fg4 (H : Heap) : HGood Tryd.prog 22 [.int .u8 (Int.ofNat 4)] H (formK H 4) := fm_row fm4 (by decide) (by rfl) (fun _ => rfl) H
theorem fg5 (H : Heap) : HGood Tryd.prog 22 [.int .u8 (Int.ofNat 5)] H (formK H 5) := fm_row fm5 (by decide) (by rfl) (fun _ => rfl) H
theorem fg6 (H : Heap) : HGood Tryd.prog 22 [.int .u8 (Int.ofNat 6)] H (formK H 6) := fm_row fm6 (by decide) (by rfl) (fun _ => rfl) H
theorem fg7 (H : Heap) : HGood Tryd.prog 22 [.int .u8 (Int.ofNat 7)] H (formK H 7) := fm_row fm7 (by decide) (by rfl) (fun _ => rfl) H
theorem fg8 (H : Heap) : HGood Tryd.prog 22 [.int .u8 (Int.ofNat 8)] H (formK H 8) := fm_nil fm8 (fun _ => rfl) H
theorem fg9 (H : Heap) : HGood Tryd.prog 22 [.int .u8 (Int.ofNat 9)] H (formK H 9) := fm_row fm9 (by decide) (by rfl) (fun _ => rfl) H
theorem fg10 (H : Heap) : HGood Tryd.prog 22 [.int .u8 (Int.ofNat 10)] H (formK H 10) := fm_row fm10 (by decide) (by rfl) (fun _ => rfl) H
theorem fg11 (H : Heap) : HGood Tryd.prog 22 [.int .u8 (Int.ofNat 11)] H (formK H 11) := fm_row fm11 (by decide) (by rfl) (fun _ => rfl) H
theorem fg12 (H : Heap) : HGood Tryd.prog 22 [.int .u8 (Int.ofNat 12)] H (formK H 12) := fm_row fm12 (by decide) (by rfl) (fun _ => rfl) H
theorem fg13 (H : Heap) : HGood Tryd.prog 22 [.int .u8 (Int.ofNat 13)] H (formK H 13) := fm_row fm13 (by decide) (by rfl) (fun _ => rfl) H
theorem fg14 (H : Heap) : HGood Tryd.prog 22 [.int .u8 (Int.ofNat 14)] H (formK H 14) := fm_row fm14 (by decide) (by rfl) (fun _ => rfl) H
theorem fg15 (H : Heap) : HGood Tryd.prog 22 [.int .u8 (Int.ofNat 15)] H (formK H 15) := fm_row fm15 (by decide) (by rfl) (fun _ => rfl) H
theorem fg16 (H : Heap) : HGood Tryd.prog 22 [.int .u8 (Int.ofNat 16)] H (formK H 16) := fm_nil fm16 (fun _ => rfl) H
theorem fg17 (H : Heap) : HGood Tryd.prog 22 [.int .u8 (Int.ofNat 17)] H (formK H 17) := fm_row fm17 (by decide) (by rfl) (fun _ => rfl) H
theorem fg18 (H : Heap) : HGood Tryd.prog 22 [.int .u8 (Int.ofNat 18)] H (formK H 18) := fm_row fm18 (by decide) (by rfl) (fun _ => rfl) H
theorem fg19 (H : Heap) : HGood Tryd.prog 22 [.int .u8 (Int.ofNat 19)] H (formK H 19) := fm_row fm19 (by decide) (by rfl) (fun _ => rfl) H
theorem fg20 (H : Heap) : HGood Tryd.prog 22 [.int .u8 (Int.ofNat 20)] H (formK H 20) := fm_row fm20 (by decide) (by rfl) (fun _ => rfl) H
theorem fg21 (H : Heap) : HGood Tryd.prog 22 [.int .u8 (Int.ofNat 21)] H (formK H 21) := fm_row fm21 (by decide) (by rfl) (fun _ => rfl) H
theorem fg22 (H : Heap) : HGood Tryd.prog 22 [.int .u8 (Int.ofNat 22)] H (formK H 22) := fm_row fm22 (by decide) (by rfl) (fun _ => rfl) H
theorem fg23 (H : Heap) : HGood Tryd.prog 22 [.int .u8 (Int.ofNat 23)] H (formK H 23) := fm_row fm23 (by decide) (by rfl) (fun _ => rfl) H
theorem fg24 (H : Heap) : HGood Tryd.prog 22 [.int .u8 (Int.ofNat 24)] H (formK H 24) := fm_nil fm24 (fun _ => rfl) H
theorem fg25 (H : Heap) : HGood Tryd.prog 22 [.int .u8 (Int.ofNat 25)] H (formK H 25) := fm_row fm25 (by decide) (by rfl) (fun _ => rfl) H
theorem fg26 (H : Heap) : HGood Tryd.prog 22 [.int .u8 (Int.ofNat 26)] H (formK H 26) := fm_row fm26 (by decide) (by rfl) (fun _ => rfl) H
theorem fg27 (H : Heap) : HGood Tryd.prog 22 [.int .u8 (Int.ofNat 27)] H (formK H 27) := fm_row fm27 (by decide) (by rfl) (fun _ => rfl) H
theorem fg28 (H : Heap) : HGood Tryd.prog 22 [.int .u8 (Int.ofNat 28)] H (formK H 28) := fm_row fm28 (by decide) (by rfl) (fun _ => rfl) H
theorem fg29 (H : Heap) : HGood Tryd.prog 22 [.int .u8 (Int.ofNat 29)] H (formK H 29) := fm_row fm29 (by decide) (by rfl) (fun _ => rfl) H
theorem fg30 (H : Heap) : HGood Tryd.prog 22 [.int .u8 (Int.ofNat 30)] H (formK H 30) := fm_row fm30 (by decide) (by rfl) (fun _ => rfl) H
theorem fg31 (H : Heap) : HGood Tryd.prog 22 [.int .u8 (Int.ofNat 31)] H (formK H 31) := fm_row fm31 (by decide) (by rfl) (fun _ => rfl) H
theorem fg32 (H : Heap) : HGood Tryd.prog 22 [.int .u8 (Int.ofNat 32)] H (formK H 32) := fm_nil fm32 (fun _ => rfl) H
theorem fg33 (H : Heap) : HGood Tryd.prog 22 [.int .u8 (Int.ofNat 33)] H (formK H 33) := fm_row fm33 (by decide) (by rfl) (fun _ => rfl) H
theorem fg34 (H : Heap) : HGood Tryd.prog 22 [.int .u8 (Int.ofNat 34)] H (formK H 34) := fm_row fm34 (by decide) (by rfl) (fun _ => rfl) H
theorem fg35 (H : Heap) : HGood Tryd.prog 22 [.int .u8 (Int.ofNat 35)] H (formK H 35) := fm_row fm35 (by decide) (by rfl) (fun _ => rfl) H
theorem fg36 (H : Heap) : HGood Tryd.prog 22 [.int .u8 (Int.ofNat 36)] H (formK H 36) := fm_row fm36 (by decide) (by rfl) (fun _ => rfl) H
theorem fg37 (H : Heap) : HGood Tryd.prog 22 [.int .u8 (Int.ofNat 37)] H (formK H 37) := fm_row fm37 (by decide) (by rfl) (fun _ => rfl) H
theorem fg38 (H : Heap) : HGood Tryd.prog 22 [.int .u8 (Int.ofNat 38)] H (formK H 38) := fm_row fm38 (by decide) (by rfl) (fun _ => rfl) H
theorem fg39 (H : Heap) : HGood Tryd.prog 22 [.int .u8 (Int.ofNat 39)] H (formK H 39) := fm_row fm39 (by decide) (by rfl) (fun _ => rfl) H
theorem fg40 (H : Heap) : HGood Tryd.prog 22 [.int .u8 (Int.ofNat 40)] H (formK H 40) := fm_nil fm40 (fun _ => rfl) H
theorem fg41 (H : Heap) : HGood Tryd.prog 22 [.int .u8 (Int.ofNat 41)] H (formK H 41) := fm_row fm41 (by decide) (by rfl) (fun _ => rfl) H
theorem fg42 (H : Heap) : HGood Tryd.prog 22 [.int .u8 (Int.ofNat 42)] H (formK H 42) := fm_row fm42 (by decide) (by rfl) (fun _ => rfl) H
theorem fg43 (H : Heap) : HGood Tryd.prog 22 [.int .u8 (Int.ofNat 43)] H (formK H 43) := fm_row fm43 (by decide) (by rfl) (fun _ => rfl) H
theorem fg44 (H : Heap) : HGood Tryd.prog 22 [.int .u8 (Int.ofNat 44)] H (formK H 44) := fm_row fm44 (by decide) (by rfl) (fun _ => rfl) H
theorem fg45 (H : Heap) : HGood Tryd.prog 22 [.int .u8 (Int.ofNat 45)] H (formK H 45) := fm_row fm45 (by decide) (by rfl) (fun _ => rfl) H
theorem fg46 (H : Heap) : HGood Tryd.prog 22 [.int .u8 (Int.ofNat 46)] H (formK H 46) := fm_row fm46 (by decide) (by rfl) (fun _ => rfl) H
theorem fg47 (H : Heap) : HGood Tryd.prog 22 [.int .u8 (Int.ofNat 47)] H (formK H 47) := fm_row fm47 (by decide) (by rfl) (fun _ => rfl) H
theorem fg48 (H : Heap) : HGood Tryd.prog 22 [.int .u8 (Int.ofNat 48)] H (formK H 48) := fm_nil fm48 (fun _ => rfl) H
theorem fg49 (H : Heap) : HGood Tryd.prog 22 [.int .u8 (Int.ofNat 49)] H (formK H 49) := fm_row fm49 (by decide) (by rfl) (fun _ => rfl) H
theorem fg50 (H : Heap) : HGood Tryd.prog 22 [.int .u8 (Int.ofNat 50)] H (formK H 50) := fm_row fm50 (by decide) (by rfl) (fun _ => rfl) H
theorem fg51 (H : Heap) : HGood Tryd.prog 22 [.int .u8 (Int.ofNat 51)] H (formK H 51) := fm_row fm51 (by decide) (by rfl) (fun _ => rfl) H
theorem fg52 (H : Heap) : HGood Tryd.prog 22 [.int .u8 (Int.ofNat 52)] H (formK H 52) := fm_row fm52 (by decide) (by rfl) (fun _ => rfl) H
theorem fg53 (H : Heap) : HGood Tryd.prog 22 [.int .u8 (Int.ofNat 53)] H (formK H 53) := fm_row fm53 (by decide) (by rfl) (fun _ => rfl) H
theorem fg54 (H : Heap) : HGood Tryd.prog 22 [.int .u8 (Int.ofNat 54)] H (formK H 54) := fm_row fm54 (by decide) (by rfl) (fun _ => rfl) H
theorem fg55 (H : Heap) : HGood Tryd.prog 22 [.int .u8 (Int.ofNat 55)] H (formK H 55) := fm_row fm55 (by decide) (by rfl) (fun _ => rfl) H
theorem fg56 (H : Heap) : HGood Tryd.prog 22 [.int .u8 (Int.ofNat 56)] H (formK H 56) := fm_nil fm56 (fun _ => rfl) H
theorem fg57 (H : Heap) : HGood Tryd.prog 22 [.int .u8 (Int.ofNat 57)] H (formK H 57) := fm_row fm57 (by decide) (by rfl) (fun _ => rfl) H
theorem fg58 (H : Heap) : HGood Tryd.prog 22 [.int .u8 (Int.ofNat 58)] H (formK H 58) := fm_row fm58 (by decide) (by rfl) (fun _ => rfl) H
theorem fg59 (H : Heap) : HGood Tryd.prog 22 [.int .u8 (Int.ofNat 59)] H (formK H 59) := fm_row fm59 (by decide) (by rfl) (fun _ => rfl) H
theorem fg60 (H : Heap) : HGood Tryd.prog 22 [.int .u8 (Int.ofNat 60)] H (formK H 60) := fm_row fm60 (by decide) (by rfl) (fun _ => rfl) H
theorem fg61 (H : Heap) : HGood Tryd.prog 22 [.int .u8 (Int.ofNat 61)] H (formK H 61) := fm_row fm61 (by decide) (by rfl) (fun _ => rfl) H
theorem fg62 (H : Heap) : HGood Tryd.prog 22 [.int .u8 (Int.ofNat 62)] H (formK H 62) := fm_row fm62 (by decide) (by rfl) (fun _ => rfl) H
theorem fg63 (H : Heap) : HGood Tryd.prog 22 [.int .u8 (Int.ofNat 63)] H (formK H 63) := fm_row fm63 (by decide) (by rfl) (fun _ => rfl) H
theorem fg64 (H : Heap) : HGood Tryd.prog 22 [.int .u8 (Int.ofNat 64)] H (formK H 64) := fm_row fm64 (by decide) (by rfl) (fun _ => rfl) H
theorem fg65 (H : Heap) : HGood Tryd.prog 22 [.int .u8 (Int.ofNat 65)] H (formK H 65) := fm_row fm65 (by decide) (by rfl) (fun _ => rfl) H
theorem fg66 (H : Heap) : HGood Tryd.prog 22 [.int .u8 (Int.ofNat 66)] H (formK H 66) := fm_row fm66 (by decide) (by rfl) (fun _ => rfl) H
theorem fg67 (H : Heap) : HGood Tryd.prog 22 [.int .u8 (Int.ofNat 67)] H (formK H 67) := fm_row fm67 (by decide) (by rfl) (fun _ => rfl) H
theorem fg68 (H : Heap) : HGood Tryd.prog 22 [.int .u8 (Int.ofNat 68)] H (formK H 68) := fm_row fm68 (by decide) (by rfl) (fun _ => rfl) H
theorem fg69 (H : Heap) : HGood Tryd.prog 22 [.int .u8 (Int.ofNat 69)] H (formK H 69) := fm_row fm69 (by decide) (by rfl) (fun _ => rfl) H
theorem fg70 (H : Heap) : HGood Tryd.prog 22 [.int .u8 (Int.ofNat 70)] H (formK H 70) := fm_row fm70 (by decide) (by rfl) (fun _ => rfl) H
theorem fg71 (H : Heap) : HGood Tryd.prog 22 [.int .u8 (Int.ofNat 71)] H (formK H 71) := fm_row fm71 (by decide) (by rfl) (fun _ => rfl) H
theorem fg72 (H : Heap) : HGood Tryd.prog 22 [.int .u8 (Int.ofNat 72)] H (formK H 72) := fm_row fm72 (by decide) (by rfl) (fun _ => rfl) H
theorem fg73 (H : Heap) : HGood Tryd.prog 22 [.int .u8 (Int.ofNat 73)] H (formK H 73) := fm_row fm73 (by decide) (by rfl) (fun _ => rfl) H
theorem fg74 (H : Heap) : HGood Tryd.prog 22 [.int .u8 (Int.ofNat 74)] H (formK H 74) := fm_row fm74 (by decide) (by rfl) (fun _ => rfl) H
theorem fg75 (H : Heap) : HGood Tryd.prog 22 [.int .u8 (Int.ofNat 75)] H (formK H 75) := fm_row fm75 (by decide) (by rfl) (fun _ => rfl) H
theorem fg76 (H : Heap) : HGood Tryd.prog 22 [.int .u8 (Int.ofNat 76)] H (formK H 76) := fm_row fm76 (by decide) (by rfl) (fun _ => rfl) H
theorem fg77 (H : Heap) : HGood Tryd.prog 22 [.int .u8 (Int.ofNat 77)] H (formK H 77) := fm_row fm77 (by decide) (by rfl) (fun _ => rfl) H
theorem fg78 (H : Heap) : HGood Tryd.prog 22 [.int .u8 (Int.ofNat 78)] H (formK H 78) := fm_row fm78 (by decide) (by rfl) (fun _ => rfl) H
theorem fg79 (H : Heap) : HGood Tryd.prog 22 [.int .u8 (Int.ofNat 79)] H (formK H 79) := fm_row fm79 (by decide) (by rfl) (fun _ => rfl) H
theorem fg80 (H : Heap) : HGood Tryd.prog 22 [.int .u8 (Int.ofNat 80)] H (formK H 80) := fm_row fm80 (by decide) (by rfl) (fun _ => rfl) H
theorem fg81 (H : Heap) : HGood Tryd.prog 22 [.int .u8 (Int.ofNat 81)] H (formK H 81) := fm_row fm81 (by decide) (by rfl) (fun _ => rfl) H
theorem fg82 (H : Heap) : HGood Tryd.prog 22 [.int .u8 (Int.ofNat 82)] H (formK H 82) := fm_row fm82 (by decide) (by rfl) (fun _ => rfl) H
theorem fg83 (H : Heap) : HGood Tryd.prog 22 [.int .u8 (Int.ofNat 83)] H (formK H 83) := fm_row fm83 (by decide) (by rfl) (fun _ => rfl) H
theorem fg84 (H : Heap) : HGood Tryd.prog 22 [.int .u8 (Int.ofNat 84)] H (formK H 84) := fm_row fm84 (by decide) (by rfl) (fun _ => rfl) H
theorem fg85 (H : Heap) : HGood Tryd.prog 22 [.int .u8 (Int.ofNat 85)] H (formK H 85) := fm_row fm85 (by decide) (by rfl) (fun _ => rfl) H
theorem fg86 (H : Heap) : HGood Tryd.prog 22 [.int .u8 (Int.ofNat 86)] H (formK H 86) := fm_row fm86 (by decide) (by rfl) (fun _ => rfl) H
theorem fg87 (H : Heap) : HGood Tryd.prog 22 [.int .u8 (Int.ofNat 87)] H (formK H 87) := fm_row fm87 (by decide) (by rfl) (fun _ => rfl) H
theorem fg88 (H : Heap) : HGood Tryd.prog 22 [.int .u8 (Int.ofNat 88)] H (formK H 88) := fm_row fm88 (by decide) (by rfl) (fun _ => rfl) H
theorem fg89 (H : Heap) : HGood Tryd.prog 22 [.int .u8 (Int.ofNat 89)] H (formK H 89) := fm_row fm89 (by decide) (by rfl) (fun _ => rfl) H
theorem fg90 (H : Heap) : HGood Tryd.prog 22 [.int .u8 (Int.ofNat 90)] H (formK H 90) := fm_row fm90 (by decide) (by rfl) (fun _ => rfl) H
theorem fg91 (H : Heap) : HGood Tryd.prog 22 [.int .u8 (Int.ofNat 91)] H (formK H 91) := fm_row fm91 (by decide) (by rfl) (fun _ => rfl) H
theorem fg92 (H : Heap) : HGood Tryd.prog 22 [.int .u8 (Int.ofNat 92)] H (formK H 92) := fm_row fm92 (by decide) (by rfl) (fun _ => rfl) H
theorem fg93 (H : Heap) : HGood Tryd.prog 22 [.int .u8 (Int.ofNat 93)] H (formK H 93) := fm_row fm93 (by decide) (by rfl) (fun _ => rfl) H
theorem fg94 (H : Heap) : HGood Tryd.prog 22 [.int .u8 (Int.ofNat 94)] H (formK H 94) := fm_row fm94 (by decide) (by rfl) (fun _ => rfl) H
theorem fg95 (H : Heap) : HGood Tryd.prog 22 [.int .u8 (Int.ofNat 95)] H (formK H 95) := fm_row fm95 (by decide) (by rfl) (fun _ => rfl) H
theorem fg96 (H : Heap) : HGood Tryd.prog 22 [.int .u8 (Int.ofNat 96)] H (formK H 96) := fm_row fm96 (by decide) (by rfl) (fun _ => rfl) H
theorem fg97 (H : Heap) : HGood Tryd.prog 22 [.int .u8 (Int.ofNat 97)] H (formK H 97) := fm_row fm97 (by decide) (by rfl) (fun _ => rfl) H
theorem fg98 (H : Heap) : HGood Tryd.prog 22 [.int .u8 (Int.ofNat 98)] H (formK H 98) := fm_row fm98 (by decide) (by rfl) (fun _ => rfl) H
theorem fg99 (H : Heap) : HGood Tryd.prog 22 [.int .u8 (Int.ofNat 99)] H (formK H 99) := fm_row fm99 (by decide) (by rfl) (fun _ => rfl) H
theorem fg100 (H : Heap) : HGood Tryd.prog 22 [.int .u8 (Int.ofNat 100)] H (formK H 100) := fm_row fm100 (by decide) (by rfl) (fun _ => rfl) H
theorem fg101 (H : Heap) : HGood Tryd.prog 22 [.int .u8 (Int.ofNat 101)] H (formK H 101) := fm_row fm101 (by decide) (by rfl) (fun _ => rfl) H
theorem fg102 (H : Heap) : HGood Tryd.prog 22 [.int .u8 (Int.ofNat 102)] H (formK H 102) := fm_row fm102 (by decide) (by rfl) (fun _ => rfl) H
theorem fg103 (H : Heap) : HGood Tryd.prog 22 [.int .u8 (Int.ofNat 103)] H (formK H 103) := fm_row fm103 (by decide) (by rfl) (fun _ => rfl) H
theorem fg104 (H : Heap) : HGood Tryd.prog 22 [.int .u8 (Int.ofNat 104)] H (formK H 104) := fm_row fm104 (by decide) (by rfl) (fun _ => rfl) H
theorem fg105 (H : Heap) : HGood Tryd.prog 22 [.int .u8 (Int.ofNat 105)] H (formK H 105) := fm_row fm105 (by decide) (by rfl) (fun _ => rfl) H
theorem fg106 (H : Heap) : HGood Tryd.prog 22 [.int .u8 (Int.ofNat 106)] H (formK H 106) := fm_row fm106 (by decide) (by rfl) (fun _ => rfl) H
theorem fg107 (H : Heap) : HGood Tryd.prog 22 [.int .u8 (Int.ofNat 107)] H (formK H 107) := fm_row fm107 (by decide) (by rfl) (fun _ => rfl) H
theorem fg108 (H : Heap) : HGood Tryd.prog 22 [.int .u8 (Int.ofNat 108)] H (formK H 108) := fm_row fm108 (by decide) (by rfl) (fun _ => rfl) H
theorem fg109 (H : Heap) : HGood Tryd.prog 22 [.int .u8 (Int.ofNat 109)] H (formK H 109) := fm_row fm109 (by decide) (by rfl) (fun _ => rfl) H
theorem fg110 (H : Heap) : HGood Tryd.prog 22 [.int .u8 (Int.ofNat 110)] H (formK H 110) := fm_row fm110 (by decide) (by rfl) (fun _ => rfl) H
theorem fg111 (H : Heap) : HGood Tryd.prog 22 [.int .u8 (Int.ofNat 111)] H (formK H 111) := fm_row fm111 (by decide) (by rfl) (fun _ => rfl) H
theorem fg112 (H : Heap) : HGood Tryd.prog 22 [.int .u8 (Int.ofNat 112)] H (formK H 112) := fm_row fm112 (by decide) (by rfl) (fun _ => rfl) H
theorem fg113 (H : Heap) : HGood Tryd.prog 22 [.int .u8 (Int.ofNat 113)] H (formK H 113) := fm_row fm113 (by decide) (by rfl) (fun _ => rfl) H
theorem fg114 (H : Heap) : HGood Tryd.prog 22 [.int .u8 (Int.ofNat 114)] H (formK H 114) := fm_row fm114 (by decide) (by rfl) (fun _ => rfl) H
theorem fg115 (H : Heap) : HGood Tryd.prog 22 [.int .u8 (Int.ofNat 115)] H (formK H 115) := fm_row fm115 (by decide) (by rfl) (fun _ => rfl) H
theorem fg116 (H : Heap) : HGood Tryd.prog 22 [.int .u8 (Int.ofNat 116)] H (formK H 116) := fm_row fm116 (by decide) (by rfl) (fun _ => rfl) H
theorem fg117 (H : Heap) : HGood Tryd.prog 22 [.int .u8 (Int.ofNat 117)] H (formK H 117) := fm_row fm117 (by decide) (by rfl) (fun _ => rfl) H
theorem fg118 (H : Heap) : HGood Tryd.prog 22 [.int .u8 (Int.ofNat 118)] H (formK H 118) := fm_row fm118 (by decide) (by rfl) (fun _ => rfl) H
theorem fg119 (H : Heap) : HGood Tryd.prog 22 [.int .u8 (Int.ofNat 119)] H (formK H 119) := fm_row fm119 (by decide) (by rfl) (fun _ => rfl) H
theorem fg120 (H : Heap) : HGood Tryd.prog 22 [.int .u8 (Int.ofNat 120)] H (formK H 120) := fm_row fm120 (by decide) (by rfl) (fun _ => rfl) H
theorem fg121 (H : Heap) : HGood Tryd.prog 22 [.int .u8 (Int.ofNat 121)] H (formK H 121) := fm_row fm121 (by decide) (by rfl) (fun _ => rfl) H
theorem fg122 (H : Heap) : HGood Tryd.prog 22 [.int .u8 (Int.ofNat 122)] H (formK H 122) := fm_row fm122 (by decide) (by rfl) (fun _ => rfl) H
theorem fg123 (H : Heap) : HGood Tryd.prog 22 [.int .u8 (Int.ofNat 123)] H (formK H 123) := fm_row fm123 (by decide) (by rfl) (fun _ => rfl) H
theorem fg124 (H : Heap) : HGood Tryd.prog 22 [.int .u8 (Int.ofNat 124)] H (formK H 124) := fm_row fm124 (by decide) (by rfl) (fun _ => rfl) H
theorem fg125 (H : Heap) : HGood Tryd.prog 22 [.int .u8 (Int.ofNat 125)] H (formK H 125) := fm_row fm125 (by decide) (by rfl) (fun _ => rfl) H
theorem fg126 (H : Heap) : HGood Tryd.prog 22 [.int .u8 (Int.ofNat 126)] H (formK H 126) := fm_row fm126 (by decide) (by rfl) (fun _ => rfl) H
theorem fg127 (H : Heap) : HGood Tryd.prog 22 [.int .u8 (Int.ofNat 127)] H (formK H 127) := fm_row fm127 (by decide) (by rfl) (fun _ => rfl) H
theorem fg128 (H : Heap) : HGood Tryd.prog 22 [.int .u8 (Int.ofNat 128)] H (formK H 128) := fm_row fm128 (by decide) (by rfl) (fun _ => rfl) H
theorem fg129 (H : Heap) : HGood Tryd.prog 22 [.int .u8 (Int.ofNat 129)] H (formK H 129) := fm_row fm129 (by decide) (by rfl) (fun _ => rfl) H
theorem fg130 (H : Heap) : HGood Tryd.prog 22 [.int .u8 (Int.ofNat 130)] H (formK H 130) := fm_row fm130 (by decide) (by rfl) (fun _ => rfl) H
theorem fg131 (H : Heap) : HGood Tryd.prog 22 [.int .u8 (Int.ofNat 131)] H (formK H 131) := fm_row fm131 (by decide) (by rfl) (fun _ => rfl) H
theorem fg132 (H : Heap) : HGood Tryd.prog 22 [.int .u8 (Int.ofNat 132)] H (formK H 132) := fm_row fm132 (by decide) (by rfl) (fun _ => rfl) H
theorem fg133 (H : Heap) : HGood Tryd.prog 22 [.int .u8 (Int.ofNat 133)] H (formK H 133) := fm_row fm133 (by decide) (by rfl) (fun _ => rfl) H
theorem fg134 (H : Heap) : HGood Tryd.prog 22 [.int .u8 (Int.ofNat 134)] H (formK H 134) := fm_row fm134 (by decide) (by rfl) (fun _ => rfl) H
theorem fg135 (H : Heap) : HGood Tryd.prog 22 [.int .u8 (Int.ofNat 135)] H (formK H 135) := fm_row fm135 (by decide) (by rfl) (fun _ => rfl) H
theorem fg136 (H : Heap) : HGood Tryd.prog 22 [.int .u8 (Int.ofNat 136)] H (formK H 136) := fm_row fm136 (by decide) (by rfl) (fun _ => rfl) H
theorem fg137 (H : Heap) : HGood Tryd.prog 22 [.int .u8 (Int.ofNat 137)] H (formK H 137) := fm_row fm137 (by decide) (by rfl) (fun _ => rfl) H
theorem fg138 (H : Heap) : HGood Tryd.prog 22 [.int .u8 (Int.ofNat 138)] H (formK H 138) := fm_row fm138 (by decide) (by rfl) (fun _ => rfl) H
theorem fg139 (H : Heap) : HGood Tryd.prog 22 [.int .u8 (Int.ofNat 139)] H (formK H 139) := fm_row fm139 (by decide) (by rfl) (fun _ => rfl) H
theorem fg140 (H : Heap) : HGood Tryd.prog 22 [.int .u8 (Int.ofNat 140)] H (formK H 140) := fm_row fm140 (by decide) (by rfl) (fun _ => rfl) H
theorem fg141 (H : Heap) : HGood Tryd.prog 22 [.int .u8 (Int.ofNat 141)] H (formK H 141) := fm_row fm141 (by decide) (by rfl) (fun _ => rfl) H
theorem fg142 (H : Heap) : HGood Tryd.prog 22 [.int .u8 (Int.ofNat 142)] H (formK H 142) := fm_row fm142 (by decide) (by rfl) (fun _ => rfl) H
theorem fg143 (H : Heap) : HGood Tryd.prog 22 [.int .u8 (Int.ofNat 143)] H (formK H 143) := fm_row fm143 (by decide) (by rfl) (fun _ => rfl) H
theorem fg144 (H : Heap) : HGood Tryd.prog 22 [.int .u8 (Int.ofNat 144)] H (formK H 144) := fm_row fm144 (by decide) (by rfl) (fun _ => rfl) H
theorem fg145 (H : Heap) : HGood Tryd.prog 22 [.int .u8 (Int.ofNat 145)] H (formK H 145) := fm_row fm145 (by decide) (by rfl) (fun _ => rfl) H
theorem fg146 (H : Heap) : HGood Tryd.prog 22 [.int .u8 (Int.ofNat 146)] H (formK H 146) := fm_row fm146 (by decide) (by rfl) (fun _ => rfl) H
theorem fg147 (H : Heap) : HGood Tryd.prog 22 [.int .u8 (Int.ofNat 147)] H (formK H 147) := fm_row fm147 (by decide) (by rfl) (fun _ => rfl) H
theorem fg148 (H : Heap) : HGood Tryd.prog 22 [.int .u8 (Int.ofNat 148)] H (formK H 148) := fm_row fm148 (by decide) (by rfl) (fun _ => rfl) H
theorem fg149 (H : Heap) : HGood Tryd.prog 22 [.int .u8 (Int.ofNat 149)] H (formK H 149) := fm_row fm149 (by decide) (by rfl) (fun _ => rfl) H
theorem fg150 (H : Heap) : HGood Tryd.prog 22 [.int .u8 (Int.ofNat 150)] H (formK H 150) := fm_row fm150 (by decide) (by rfl) (fun _ => rfl) H
theorem fg151 (H : Heap) : HGood Tryd.prog 22 [.int .u8 (Int.ofNat 151)] H (formK H 151) := fm_row fm151 (by decide) (by rfl) (fun _ => rfl) H
theorem fg152 (H : Heap) : HGood Tryd.prog 22 [.int .u8 (Int.ofNat 152)] H (formK H 152) := fm_row fm152 (by decide) (by rfl) (fun _ => rfl) H
theorem fg153 (H : Heap) : HGood Tryd.prog 22 [.int .u8 (Int.ofNat 153)] H (formK H 153) := fm_row fm153 (by decide) (by rfl) (fun _ => rfl) H
theorem fg154 (H : Heap) : HGood Tryd.prog 22 [.int .u8 (Int.ofNat 154)] H (formK H 154) := fm_row fm154 (by decide) (by rfl) (fun _ => rfl) H
theorem fg155 (H : Heap) : HGood Tryd.prog 22 [.int .u8 (Int.ofNat 155)] H (formK H 155) := fm_row fm155 (by decide) (by rfl) (fun _ => rfl) H
theorem fg156 (H : Heap) : HGood Tryd.prog 22 [.int .u8 (Int.ofNat 156)] H (formK H 156) := fm_row fm156 (by decide) (by rfl) (fun _ => rfl) H
theorem fg157 (H : Heap) : HGood Tryd.prog 22 [.int .u8 (Int.ofNat 157)] H (formK H 157) := fm_row fm157 (by decide) (by rfl) (fun _ => rfl) H
theorem fg158 (H : Heap) : HGood Tryd.prog 22 [.int .u8 (Int.ofNat 158)] H (formK H 158) := fm_row fm158 (by decide) (by rfl) (fun _ => rfl) H
theorem fg159 (H : Heap) : HGood Tryd.prog 22 [.int .u8 (Int.ofNat 159)] H (formK H 159) := fm_row fm159 (by decide) (by rfl) (fun _ => rfl) H
theorem fg160 (H : Heap) : HGood Tryd.prog 22 [.int .u8 (Int.ofNat 160)] H (formK H 160) := fm_row fm160 (by decide) (by rfl) (fun _ => rfl) H
theorem fg161 (H : Heap) : HGood Tryd.prog 22 [.int .u8 (Int.ofNat 161)] H (formK H 161) := fm_row fm161 (by decide) (by rfl) (fun _ => rfl) H
theorem fg162 (H : Heap) : HGood Tryd.prog 22 [.int .u8 (Int.ofNat 162)] H (formK H 162) := fm_row fm162 (by decide) (by rfl) (fun _ => rfl) H
theorem fg163 (H : Heap) : HGood Tryd.prog 22 [.int .u8 (Int.ofNat 163)] H (formK H 163) := fm_row fm163 (by decide) (by rfl) (fun _ => rfl) H
theorem fg164 (H : Heap) : HGood Tryd.prog 22 [.int .u8 (Int.ofNat 164)] H (formK H 164) := fm_row fm164 (by decide) (by rfl) (fun _ => rfl) H
theorem fg165 (H : Heap) : HGood Tryd.prog 22 [.int .u8 (Int.ofNat 165)] H (formK H 165) := fm_row fm165 (by decide) (by rfl) (fun _ => rfl) H
theorem fg166 (H : Heap) : HGood Tryd.prog 22 [.int .u8 (Int.ofNat 166)] H (formK H 166) := fm_row fm166 (by decide) (by rfl) (fun _ => rfl) H
theorem fg167 (H : Heap) : HGood Tryd.prog 22 [.int .u8 (Int.ofNat 167)] H (formK H 167) := fm_row fm167 (by decide) (by rfl) (fun _ => rfl) H
theorem fg168 (H : Heap) : HGood Tryd.prog 22 [.int .u8 (Int.ofNat 168)] H (formK H 168) := fm_row fm168 (by decide) (by rfl) (fun _ => rfl) H
theorem fg169 (H : Heap) : HGood Tryd.prog 22 [.int .u8 (Int.ofNat 169)] H (formK H 169) := fm_row fm169 (by decide) (by rfl) (fun _ => rfl) H
theorem fg170 (H : Heap) : HGood Tryd.prog 22 [.int .u8 (Int.ofNat 170)] H (formK H 170) := fm_row fm170 (by decide) (by rfl) (fun _ => rfl) H
theorem fg171 (H : Heap) : HGood Tryd.prog 22 [.int .u8 (Int.ofNat 171)] H (formK H 171) := fm_row fm171 (by decide) (by rfl) (fun _ => rfl) H
theorem fg172 (H : Heap) : HGood Tryd.prog 22 [.int .u8 (Int.ofNat 172)] H (formK H 172) := fm_row fm172 (by decide) (by rfl) (fun _ => rfl) H
theorem fg173 (H : Heap) : HGood Tryd.prog 22 [.int .u8 (Int.ofNat 173)] H (formK H 173) := fm_row fm173 (by decide) (by rfl) (fun _ => rfl) H
theorem fg174 (H : Heap) : HGood Tryd.prog 22 [.int .u8 (Int.ofNat 174)] H (formK H 174) := fm_row fm174 (by decide) (by rfl) (fun _ => rfl) H
theorem fg175 (H : Heap) : HGood Tryd.prog 22 [.int .u8 (Int.ofNat 175)] H (formK H 175) := fm_row fm175 (by decide) (by rfl) (fun _ => rfl) H
theorem fg176 (H : Heap) : HGood Tryd.prog 22 [.int .u8 (Int.ofNat 176)] H (formK H 176) := fm_row fm176 (by decide) (by rfl) (fun _ => rfl) H
theorem fg177 (H : Heap) : HGood Tryd.prog 22 [.int .u8 (Int.ofNat 177)] H (formK H 177) := fm_row fm177 (by decide) (by rfl) (fun _ => rfl) H
theorem fg178 (H : Heap) : HGood Tryd.prog 22 [.int .u8 (Int.ofNat 178)] H (formK H 178) := fm_row fm178 (by decide) (by rfl) (fun _ => rfl) H
theorem fg179 (H : Heap) : HGood Tryd.prog 22 [.int .u8 (Int.ofNat 179)] H (formK H 179) := fm_row fm179 (by decide) (by rfl) (fun _ => rfl) H
theorem fg180 (H : Heap) : HGood Tryd.prog 22 [.int .u8 (Int.ofNat 180)] H (formK H 180) := fm_row fm180 (by decide) (by rfl) (fun _ => rfl) H
theorem fg181 (H : Heap) : HGood Tryd.prog 22 [.int .u8 (Int.ofNat 181)] H (formK H 181) := fm_row fm181 (by decide) (by rfl) (fun _ => rfl) H
theorem fg182 (H : Heap) : HGood Tryd.prog 22 [.int .u8 (Int.ofNat 182)] H (formK H 182) := fm_row fm182 (by decide) (by rfl) (fun _ => rfl) H
theorem fg183 (H : Heap) : HGood Tryd.prog 22 [.int .u8 (Int.ofNat 183)] H (formK H 183) := fm_row fm183 (by decide) (by rfl) (fun _ => rfl) H
theorem fg184 (H : Heap) : HGood Tryd.prog 22 [.int .u8 (Int.ofNat 184)] H (formK H 184) := fm_row fm184 (by decide) (by rfl) (fun _ => rfl) H
theorem fg185 (H : Heap) : HGood Tryd.prog 22 [.int .u8 (Int.ofNat 185)] H (formK H 185) := fm_row fm185 (by decide) (by rfl) (fun _ => rfl) H
theorem fg186 (H : Heap) : HGood Tryd.prog 22 [.int .u8 (Int.ofNat 186)] H (formK H 186) := fm_row fm186 (by decide) (by rfl) (fun _ => rfl) H
theorem fg187 (H : Heap) : HGood Tryd.prog 22 [.int .u8 (Int.ofNat 187)] H (formK H 187) := fm_row fm187 (by decide) (by rfl) (fun _ => rfl) H
theorem fg188 (H : Heap) : HGood Tryd.prog 22 [.int .u8 (Int.ofNat 188)] H (formK H 188) := fm_row fm188 (by decide) (by rfl) (fun _ => rfl) H
theorem fg189 (H : Heap) : HGood Tryd.prog 22 [.int .u8 (Int.ofNat 189)] H (formK H 189) := fm_row fm189 (by decide) (by rfl) (fun _ => rfl) H
theorem fg190 (H : Heap) : HGood Tryd.prog 22 [.int .u8 (Int.ofNat 190)] H (formK H 190) := fm_row fm190 (by decide) (by rfl) (fun _ => rfl) H
theorem fg191 (H : Heap) : HGood Tryd.prog 22 [.int .u8 (Int.ofNat 191)] H (formK H 191) := fm_row fm191 (by decide) (by rfl) (fun _ => rfl) H
theorem fg192 (H : Heap) : HGood Tryd.prog 22 [.int .u8 (Int.ofNat 192)] H (formK H 192) := fm_row fm192 (by decide) (by rfl) (fun _ => rfl) H
theorem fg193 (H : Heap) : HGood Tryd.prog 22 [.int .u8 (Int.ofNat 193)] H (formK H 193) := fm_row fm193 (by decide) (by rfl) (fun _ => rfl) H
theorem fg194 (H : Heap) : HGood Tryd.prog 22 [.int .u8 (Int.ofNat 194)] H (formK H 194) := fm_row fm194 (by decide) (by rfl) (fun _ => rfl) H
theorem fg195 (H : Heap) : HGood Tryd.prog 22 [.int .u8 (Int.ofNat 195)] H (formK H 195) := fm_row fm195 (by decide) (by rfl) (fun _ => rfl) H
theorem fg196 (H : Heap) : HGood Tryd.prog 22 [.int .u8 (Int.ofNat 196)] H (formK H 196) := fm_row fm196 (by decide) (by rfl) (fun _ => rfl) H
theorem fg197 (H : Heap) : HGood Tryd.prog 22 [.int .u8 (Int.ofNat 197)] H (formK H 197) := fm_row fm197 (by decide) (by rfl) (fun _ => rfl) H
theorem fg198 (H : Heap) : HGood Tryd.prog 22 [.int .u8 (Int.ofNat 198)] H (formK H 198) := fm_row fm198 (by decide) (by rfl) (fun _ => rfl) H
theorem fg199 (H : Heap) : HGood Tryd.prog 22 [.int .u8 (Int.ofNat 199)] H (formK H 199) := fm_row fm199 (by decide) (by rfl) (fun _ => rfl) H
theorem fg200 (H : Heap) : HGood Tryd.prog 22 [.int .u8 (Int.ofNat 200)] H (formK H 200) := fm_row fm200 (by decide) (by rfl) (fun _ => rfl) H
theorem fg201 (H : Heap) : HGood Tryd.prog 22 [.int .u8 (Int.ofNat 201)] H (formK H 201) := fm_row fm201 (by decide) (by rfl) (fun _ => rfl) H
theorem fg202 (H : Heap) : HGood Tryd.prog 22 [.int .u8 (Int.ofNat 202)] H (formK H 202) := fm_row fm202 (by decide) (by rfl) (fun _ => rfl) H
theorem fg203 (H : Heap) : HGood Tryd.prog 22 [.int .u8 (Int.ofNat 203)] H (formK H 203) := fm_nil fm203 (fun _ => rfl) H
theorem fg204 (H : Heap) : HGood Tryd.prog 22 [.int .u8 (Int.ofNat 204)] H (formK H 204) := fm_row fm204 (by decide) (by rfl) (fun _ => rfl) H
theorem fg205 (H : Heap) : HGood Tryd.prog 22 [.int .u8 (Int.ofNat 205)] H (formK H 205) := fm_row fm205 (by decide) (by rfl) (fun _ => rfl) H
theorem fg206 (H : Heap) : HGood Tryd.prog 22 [.int .u8 (Int.ofNat 206)] H (formK H 206) := fm_row fm206 (by decide) (by rfl) (fun _ => rfl) H
theorem fg207 (H : Heap) : HGood Tryd.prog 22 [.int .u8 (Int.ofNat 207)] H (formK H 207) := fm_row fm207 (by decide) (by rfl) (fun _ => rfl) H
theorem fg208 (H : Heap) : HGood Tryd.prog 22 [.int .u8 (Int.ofNat 208)] H (formK H 208) := fm_row fm208 (by decide) (by rfl) (fun _ => rfl) H
theorem fg209 (H : Heap) : HGood Tryd.prog 22 [.int .u8 (Int.ofNat 209)] H (formK H 209) := fm_row fm209 (by decide) (by rfl) (fun _ => rfl) H
theorem fg210 (H : Heap) : HGood Tryd.prog 22 [.int .u8 (Int.ofNat 210)] H (formK H 210) := fm_row fm210 (by decide) (by rfl) (fun _ => rfl) H
theorem fg211 (H : Heap) : HGood Tryd.prog 22 [.int .u8 (Int.ofNat 211)] H (formK H 211) := fm_row fm211 (by decide) (by rfl) (fun _ => rfl) H
theorem fg212 (H : Heap) : HGood Tryd.prog 22 [.int .u8 (Int.ofNat 212)] H (formK H 212) := fm_row fm212 (by decide) (by rfl) (fun _ => rfl) H
theorem fg213 (H : Heap) : HGood Tryd.prog 22 [.int .u8 (Int.ofNat 213)] H (formK H 213) := fm_row fm213 (by decide) (by rfl) (fun _ => rfl) H
theorem fg214 (H : Heap) : HGood Tryd.prog 22 [.int .u8 (Int.ofNat 214)] H (formK H 214) := fm_row fm214 (by decide) (by rfl) (fun _ => rfl) H
theorem fg215 (H : Heap) : HGood Tryd.prog 22 [.int .u8 (Int.ofNat 215)] H (formK H 215) := fm_row fm215 (by decide) (by rfl) (fun _ => rfl) H
theorem fg216 (H : Heap) : HGood Tryd.prog 22 [.int .u8 (Int.ofNat 216)] H (formK H 216) := fm_row fm216 (by decide) (by rfl) (fun _ => rfl) H
theorem fg217 (H : Heap) : HGood Tryd.prog 22 [.int .u8 (Int.ofNat 217)] H (formK H 217) := fm_nil fm217 (fun _ => rfl) H
theorem fg218 (H : Heap) : HGood Tryd.prog 22 [.int .u8 (Int.ofNat 218)] H (formK H 218) := fm_row fm218 (by decide) (by rfl) (fun _ => rfl) H
theorem fg219 (H : Heap) : HGood Tryd.prog 22 [.int .u8 (Int.ofNat 219)] H (formK H 219) := fm_row fm219 (by decide) (by rfl) (fun _ => rfl) H
theorem fg220 (H : Heap) : HGood Tryd.prog 22 [.int .u8 (Int.ofNat 220)] H (formK H 220) := fm_row fm220 (by decide) (by rfl) (fun _ => rfl) H
theorem fg221 (H : Heap) : HGood Tryd.prog 22 [.int .u8 (Int.ofNat 221)] H (formK H 221) := fm_nil fm221 (fun _ => rfl) H
theorem fg222 (H : Heap) : HGood Tryd.prog 22 [.int .u8 (Int.ofNat 222)] H (formK H 222) := fm_row fm222 (by decide) (by rfl) (fun _ => rfl) H
theorem fg223 (H : Heap) : HGood Tryd.prog 22 [.int .u8 (Int.ofNat 223)] H (formK H 223) := fm_row fm223 (by decide) (by rfl) (fun _ => rfl) H
theorem fg224 (H : Heap) : HGood Tryd.prog 22 [.int .u8 (Int.ofNat 224)] H (formK H 224) := fm_row fm224 (by decide) (by rfl) (fun _ => rfl) H
theorem fg225 (H : Heap) : HGood Tryd.prog 22 [.int .u8 (Int.ofNat 225)] H (formK H 225) := fm_row fm225 (by decide) (by rfl) (fun _ => rfl) H
theorem fg226 (H : Heap) : HGood Tryd.prog 22 [.int .u8 (Int.ofNat 226)] H (formK H 226) := fm_row fm226 (by decide) (by rfl) (fun _ => rfl) H
theorem fg227 (H : Heap) : HGood Tryd.prog 22 [.int .u8 (Int.ofNat 227)] H (formK H 227) := fm_row fm227 (by decide) (by rfl) (fun _ => rfl) H
theorem fg228 (H : Heap) : HGood Tryd.prog 22 [.int .u8 (Int.ofNat 228)] H (formK H 228) := fm_row fm228 (by decide) (by rfl) (fun _ => rfl) H
theorem fg229 (H : Heap) : HGood Tryd.prog 22 [.int .u8 (Int.ofNat 229)] H (formK H 229) := fm_row fm229 (by decide) (by rfl) (fun _ => rfl) H
theorem fg230 (H : Heap) : HGood Tryd.prog 22 [.int .u8 (Int.ofNat 230)] H (formK H 230) := fm_row fm230 (by decide) (by rfl) (fun _ => rfl) H
theorem fg231 (H : Heap) : HGood Tryd.prog 22 [.int .u8 (Int.ofNat 231)] H (formK H 231) := fm_row fm231 (by decide) (by rfl) (fun _ => rfl) H
theorem fg232 (H : Heap) : HGood Tryd.prog 22 [.int .u8 (Int.ofNat 232)] H (formK H 232) := fm_row fm232 (by decide) (by rfl) (fun _ => rfl) H
theorem fg233 (H : Heap) : HGood Tryd.prog 22 [.int .u8 (Int.ofNat 233)] H (formK H 233) := fm_row fm233 (by decide) (by rfl) (fun _ => rfl) H
theorem fg234 (H : Heap) : HGood Tryd.prog 22 [.int .u8 (Int.ofNat 234)] H (formK H 234) := fm_row fm234 (by decide) (by rfl) (fun _ => rfl) H
theorem fg235 (H : Heap) : HGood Tryd.prog 22 [.int .u8 (Int.ofNat 235)] H (formK H 235) := fm_row fm235 (by decide) (by rfl) (fun _ => rfl) H
theorem fg236 (H : Heap) : HGood Tryd.prog 22 [.int .u8 (Int.ofNat 236)] H (formK H 236) := fm_row fm236 (by decide) (by rfl) (fun _ => rfl) H
theorem fg237 (H : Heap) : HGood Tryd.prog 22 [.int .u8 (Int.ofNat 237)] H (formK H 237) := fm_nil fm237 (fun _ => rfl) H
theorem fg238 (H : Heap) : HGood Tryd.prog 22 [.int .u8 (Int.ofNat 238)] H (formK H 238) := fm_row fm238 (by decide) (by rfl) (fun _ => rfl) H
theorem fg239 (H : Heap) : HGood Tryd.prog 22 [.int .u8 (Int.ofNat 239)] H (formK H 239) := fm_row fm239 (by decide) (by rfl) (fun _ => rfl) H
theorem fg240 (H : Heap) : HGood Tryd.prog 22 [.int .u8 (Int.ofNat 240)] H (formK H 240) := fm_row fm240 (by decide) (by rfl) (fun _ => rfl) H
theorem fg241 (H : Heap) : HGood Tryd.prog 22 [.int .u8 (Int.ofNat 241)] H (formK H 241) := fm_row fm241 (by decide) (by rfl) (fun _ => rfl) H
theorem fg242 (H : Heap) : HGood Tryd.prog 22 [.int .u8 (Int.ofNat 242)] H (formK H 242) := fm_row fm242 (by decide) (by rfl) (fun _ => rfl) H
theorem fg243 (H : Heap) : HGood Tryd.prog 22 [.int .u8 (Int.ofNat 243)] H (formK H 243) := fm_row fm243 (by decide) (by rfl) (fun _ => rfl) H
theorem fg244 (H : Heap) : HGood Tryd.prog 22 [.int .u8 (Int.ofNat 244)] H (formK H 244) := fm_row fm244 (by decide) (by rfl) (fun _ => rfl) H
theorem fg245 (H : Heap) : HGood Tryd.prog 22 [.int .u8 (Int.ofNat 245)] H (formK H 245) := fm_row fm245 (by decide) (by rfl) (fun _ => rfl) H
theorem fg246 (H : Heap) : HGood Tryd.prog 22 [.int .u8 (Int.ofNat 246)] H (formK H 246) := fm_row fm246 (by decide) (by rfl) (fun _ => rfl) H
theorem fg247 (H : Heap) : HGood Tryd.prog 22 [.int .u8 (Int.ofNat 247)] H (formK H 247) := fm_row fm247 (by decide) (by rfl) (fun _ => rfl) H
theorem fg248 (H : Heap) : HGood Tryd.prog 22 [.int .u8 (Int.ofNat 248)] H (formK H 248) := fm_row fm248 (by decide) (by rfl) (fun _ => rfl) H
theorem fg249 (H : Heap) : HGood Tryd.prog 22 [.int .u8 (Int.ofNat 249)] H (formK H 249) := fm_row fm249 (by decide) (by rfl) (fun _ => rfl) H
theorem fg250 (H : Heap) : HGood Tryd.prog 22 [.int .u8 (Int.ofNat 250)] H (formK H 250) := fm_row fm250 (by decide) (by rfl) (fun _ => rfl) H
theorem fg251 (H : Heap) : HGood Tryd.prog 22 [.int .u8 (Int.ofNat 251)] H (formK H 251) := fm_row fm251 (by decide) (by rfl) (fun _ => rfl) H
theorem fg252 (H : Heap) : HGood Tryd.prog 22 [.int .u8 (Int.ofNat 252)] H (formK H 252) := fm_row fm252 (by decide) (by rfl) (fun _ => rfl) H
theorem fg253 (H : Heap) : HGood Tryd.prog 22 [.int .u8 (Int.ofNat 253)] H (formK H 253) := fm_nil fm253 (fun _ => rfl) H
theorem fg254 (H : Heap) : HGood Tryd.prog 22 [.int .u8 (Int.ofNat 254)] H (formK H 254) := fm_row fm254 (by decide) (by rfl) (fun _ => rfl) H
theorem fg255 (H : Heap) : HGood Tryd.prog 22 [.int .u8 (Int.ofNat 255)] H (formK H 255) := fm_row fm255 (by decide) (by rfl) (fun _ => rfl) H
theorem fgs0 (k : Nat) (h1 : 0 ≤ k) (h2 : k < 16) (H : Heap) : HGood Tryd.prog 22 [.int .u8 (Int.ofNat k)] H (formK H k) := by
  have h : k = 0 ∨ k = 1 ∨ k = 2 ∨ k = 3 ∨ k = 4 ∨ k = 5 ∨ k = 6 ∨ k = 7 ∨ k = 8 ∨ k = 9 ∨ k = 10 ∨ k = 11 ∨ k = 12 ∨ k = 13 ∨ k = 14 ∨ k = 15 := by omega
  rcases h with rfl | rfl | rfl | rfl | rfl | rfl | rfl | rfl | rfl | rfl | rfl | rfl | rfl | rfl | rfl | rfl
  · exact fg0 H
  · exact fg1 H
  · exact fg2 H
  · exact fg3 H
  · exact fg4 H
  · exact fg5 H
  · exact fg6 H
  · exact fg7 H
  · exact fg8 H
  · exact fg9 H
  · exact fg10 H
  · exact fg11 H
  · exact fg12 H
  · exact fg13 H
  · exact fg14 H
  · exact fg15 H
theorem fgs1 (k : Nat) (h1 : 16 ≤ k) (h2 : k < 32) (H : Heap) : HGood Tryd.prog 22 [.int .u8 (Int.ofNat k)] H (formK H k) := by
  have h : k = 16 ∨ k = 17 ∨ k = 18 ∨ k = 19 ∨ k = 20 ∨ k = 21 ∨ k = 22 ∨ k = 23 ∨ k = 24 ∨ k = 25 ∨ k = 26 ∨ k = 27 ∨ k = 28 ∨ k = 29 ∨ k = 30 ∨ k = 31 := by omega
  rcases h with rfl | rfl | rfl | rfl | rfl | rfl | rfl | rfl | rfl | rfl | rfl | rfl | rfl | rfl | rfl | rfl
  · exact fg16 H
  · exact fg17 H
  · exact fg18 H
  · exact fg19 H
  · exact fg20 H
  · exact fg21 H
  · exact fg22 H
  · exact fg23 H
  · exact fg24 H
  · exact fg25 H
  · exact fg26 H
  · exact fg27 H
  · exact fg28 H
  · exact fg29 H
  · exact fg30 H
  · exact fg31 H
theorem fgs2 (k : Nat) (h1 : 32 ≤ k) (h2 : k < 48) (H : Heap) : HGood Tryd.prog 22 [.int .u8 (Int.ofNat k)] H (formK H k) := by
  have h : k = 32 ∨ k = 33 ∨ k = 34 ∨ k = 35 ∨ k = 36 ∨ k = 37 ∨ k = 38 ∨ k = 39 ∨ k = 40 ∨ k = 41 ∨ k = 42 ∨ k = 43 ∨ k = 44 ∨ k = 45 ∨ k = 46 ∨ k = 47 := by omega
  rcases h with rfl | rfl | rfl | rfl | rfl | rfl | rfl | rfl | rfl | rfl | rfl | rfl | rfl | rfl | rfl | rfl
  · exact fg32 H
  · exact fg33 H
  · exact fg34 H
  · exact fg35 H
  · exact fg36 H
  · exact fg37 H
  · exact fg38 H
  · exact fg39 H
  · exact fg40 H
  · exact fg41 H
  · exact fg42 H
  · exact fg43 H
  · exact fg44 H
  · exact fg45 H
  · exact fg46 H
  · exact fg47 H
theorem fgs3 (k : Nat) (h1 : 48 ≤ k) (h2 : k < 64) (H : Heap) : HGood Tryd.prog 22 [.int .u8 (Int.ofNat k)] H (formK H k) := by
  have h : k = 48 ∨ k = 49 ∨ k = 50 ∨ k = 51 ∨ k = 52 ∨ k = 53 ∨ k = 54 ∨ k = 55 ∨ k = 56 ∨ k = 57 ∨ k = 58 ∨ k = 59 ∨ k = 60 ∨ k = 61 ∨ k = 62 ∨ k = 63 := by omega
  rcases h with rfl | rfl | rfl | rfl | rfl | rfl | rfl | rfl | rfl | rfl | rfl | rfl | rfl | rfl | rfl | rfl
  · exact fg48 H
  · exact fg49 H
  · exact fg50 H
  · exact fg51 H
  · exact fg52 H
  · exact fg53 H
  · exact fg54 H
  · exact fg55 H
  · exact fg56 H
  · exact fg57 H
  · exact fg58 H
  · exact fg59 H
  · exact fg60 H
  · exact fg61 H
  · exact fg62 H
  · exact fg63 H
theorem fgs4 (k : Nat) (h1 : 64 ≤ k) (h2 : k < 80) (H : Heap) : HGood Tryd.prog 22 [.int .u8 (Int.ofNat k)] H (formK H k) := by
  have h : k = 64 ∨ k = 65 ∨ k = 66 ∨ k = 67 ∨ k = 68 ∨ k = 69 ∨ k = 70 ∨ k = 71 ∨ k = 72 ∨ k = 73 ∨ k = 74 ∨ k = 75 ∨ k = 76 ∨ k = 77 ∨ k = 78 ∨ k = 79 := by omega
  rcases h with rfl | rfl | rfl | rfl | rfl | rfl | rfl | rfl | rfl | rfl | rfl | rfl | rfl | rfl | rfl | rfl
  · exact fg64 H
  · exact fg65 H
  · exact fg66 H
  · exact fg67 H
  · exact fg68 H
  · exact fg69 H
  · exact fg70 H
  · exact fg71 H
  · exact fg72 H
  · exact fg73 H
  · exact fg74 H
  · exact fg75 H
  · exact fg76 H
  · exact fg77 H
  · exact fg78 H
  · exact fg79 H
theorem fgs5 (k : Nat) (h1 : 80 ≤ k) (h2 : k < 96) (H : Heap) : HGood Tryd.prog 22 [.int .u8 (Int.ofNat k)] H (formK H k) := by
  have h : k = 80 ∨ k = 81 ∨ k = 82 ∨ k = 83 ∨ k = 84 ∨ k = 85 ∨ k = 86 ∨ k = 87 ∨ k = 88 ∨ k = 89 ∨ k = 90 ∨ k = 91 ∨ k = 92 ∨ k = 93 ∨ k = 94 ∨ k = 95 := by omega
  rcases h with rfl | rfl | rfl | rfl | rfl | rfl | rfl | rfl | rfl | rfl | rfl | rfl | rfl | rfl | rfl | rfl
  · exact fg80 H
  · exact fg81 H
  · exact fg82 H
  · exact fg83 H
  · exact fg84 H
  · exact fg85 H
  · exact fg86 H
  · exact fg87 H
  · exact fg88 H
  · exact fg89 H
  · exact fg90 H
  · exact fg91 H
  · exact fg92 H
  · exact fg93 H
  · exact fg94 H
  · exact fg95 H
theorem fgs6 (k : Nat) (h1 : 96 ≤ k) (h2 : k < 112) (H : Heap) : HGood Tryd.prog 22 [.int .u8 (Int.ofNat k)] H (formK H k) := by
  have h : k = 96 ∨ k = 97 ∨ k = 98 ∨ k = 99 ∨ k = 100 ∨ k = 101 ∨ k = 102 ∨ k = 103 ∨ k = 104 ∨ k = 105 ∨ k = 106 ∨ k = 107 ∨ k = 108 ∨ k = 109 ∨ k = 110 ∨ k = 111 := by omega
  rcases h with rfl | rfl | rfl | rfl | rfl | rfl | rfl | rfl | rfl | rfl | rfl | rfl | rfl | rfl | rfl | rfl
  · exact fg96 H
  · exact fg97 H
  · exact fg98 H
  · exact fg99 H
  · exact fg100 H
  · exact fg101 H
  · exact fg102 H
  · exact fg103 H
  · exact fg104 H
  · exact fg105 H
  · exact fg106 H
  · exact fg107 H
  · exact fg108 H
  · exact fg109 H
  · exact fg110 H
  · exact fg111 H
theorem fgs7 (k : Nat) (h1 : 112 ≤ k) (h2 : k < 128) (H : Heap) : HGood Tryd.prog 22 [.int .u8 (Int.ofNat k)] H (formK H k) := by
  have h : k = 112 ∨ k = 113 ∨ k = 114 ∨ k = 115 ∨ k = 116 ∨ k = 117 ∨ k = 118 ∨ k = 119 ∨ k = 120 ∨ k = 121 ∨ k = 122 ∨ k = 123 ∨ k = 124 ∨ k = 125 ∨ k = 126 ∨ k = 127 := by omega
  rcases h with rfl | rfl | rfl | rfl | rfl | rfl | rfl | rfl | rfl | rfl | rfl | rfl | rfl | rfl | rfl | rfl
  · exact fg112 H
  · exact fg113 H
  · exact fg114 H
  · exact fg115 H
  · exact fg116 H
  · exact fg117 H
  · exact fg118 H
  · exact fg119 H
  · exact fg120 H
  · exact fg121 H
  · exact fg122 H
  · exact fg123 H
  · exact fg124 H
  · exact fg125 H
  · exact fg126 H
  · exact fg127 H
theorem fgs8 (k : Nat) (h1 : 128 ≤ k) (h2 : k < 144) (H : Heap) : HGood Tryd.prog 22 [.int .u8 (Int.ofNat k)] H (formK H k) := by
  have h : k = 128 ∨ k = 129 ∨ k = 130 ∨ k = 131 ∨ k = 132 ∨ k = 133 ∨ k = 134 ∨ k = 135 ∨ k = 136 ∨ k = 137 ∨ k = 138 ∨ k = 139 ∨ k = 140 ∨ k = 141 ∨ k = 142 ∨ k = 143 := by omega
  rcases h with rfl | rfl | rfl | rfl | rfl | rfl | rfl | rfl | rfl | rfl | rfl | rfl | rfl | rfl | rfl | rfl
  · exact fg128 H
  · exact fg129 H
  · exact fg130 H
  · exact fg131 H
  · exact fg132 H
  · exact fg133 H
  · exact fg134 H
  · exact fg135 H
  · exact fg136 H
  · exact fg137 H
  · exact fg138 H
  · exact fg139 H
  · exact fg140 H
  · exact fg141 H
  · exact fg142 H
  · exact fg143 H
theorem fgs9 (k : Nat) (h1 : 144 ≤ k) (h2 : k < 160) (H : Heap) : HGood Tryd.prog 22 [.int .u8 (Int.ofNat k)] H (formK H k) := by
  have h : k = 144 ∨ k = 145 ∨ k = 146 ∨ k = 147 ∨ k = 148 ∨ k = 149 ∨ k = 150 ∨ k = 151 ∨ k = 152 ∨ k = 153 ∨ k = 154 ∨ k = 155 ∨ k = 156 ∨ k = 157 ∨ k = 158 ∨ k = 159 := by omega
  rcases h with rfl | rfl | rfl | rfl | rfl | rfl | rfl | rfl | rfl | rfl | rfl | rfl | rfl | rfl | rfl | rfl
  · exact fg144 H
  · exact fg145 H
  · exact fg146 H
  · exact fg147 H
  · exact fg148 H
  · exact fg149 H
  · exact fg150 H
  · exact fg151 H
  · exact fg152 H
  · exact fg153 H
  · exact fg154 H
  · exact fg155 H
  · exact fg156 H
  · exact fg157 H
  · exact fg158 H
  · exact fg159 H
theorem fgs10 (k : Nat) (h1 : 160 ≤ k) (h2 : k < 176) (H : Heap) : HGood Tryd.prog 22 [.int .u8 (Int.ofNat k)] H (formK H k) := by
  have h : k = 160 ∨ k = 161 ∨ k = 162 ∨ k = 163 ∨ k = 164 ∨ k = 165 ∨ k = 166 ∨ k = 167 ∨ k = 168 ∨ k = 169 ∨ k = 170 ∨ k = 171 ∨ k = 172 ∨ k = 173 ∨ k = 174 ∨ k = 175 := by omega
  rcases h with rfl | rfl | rfl | rfl | rfl | rfl | rfl | rfl | rfl | rfl | rfl | rfl | rfl | rfl | rfl | rfl
  · exact fg160 H
  · exact fg161 H
  · exact fg162 H
  · exact fg163 H
  · exact fg164 H
  · exact fg165 H
  · exact fg166 H
  · exact fg167 H
  · exact fg168 H
  · exact fg169 H
  · exact fg170 H
  · exact fg171 H
  · exact fg172 H
  · exact fg173 H
  · exact fg174 H
  · exact fg175 H
theorem fgs11 (k : Nat) (h1 : 176 ≤ k) (h2 : k < 192) (H : Heap) : HGood Tryd.prog 22 [.int .u8 (Int.ofNat k)] H (formK H k) := by
  have h : k = 176 ∨ k = 177 ∨ k = 178 ∨ k = 179 ∨ k = 180 ∨ k = 181 ∨ k = 182 ∨ k = 183 ∨ k = 184 ∨ k = 185 ∨ k = 186 ∨ k = 187 ∨ k = 188 ∨ k = 189 ∨ k = 190 ∨ k = 191 := by omega
  rcases h with rfl | rfl | rfl | rfl | rfl | rfl | rfl | rfl | rfl | rfl | rfl | rfl | rfl | rfl | rfl | rfl
  · exact fg176 H
  · exact fg177 H
  · exact fg178 H
  · exact fg179 H
  · exact fg180 H
  · exact fg181 H
  · exact fg182 H
  · exact fg183 H
  · exact fg184 H
  · exact fg185 H
  · exact fg186 H
  · exact fg187 H
  · exact fg188 H
  · exact fg189 H
  · exact fg190 H
  · exact fg191 H
theorem fgs12 (k : Nat) (h1 : 192 ≤ k) (h2 : k < 208) (H : Heap) : HGood Tryd.prog 22 [.int .u8 (Int.ofNat k)] H (formK H k) := by
  have h : k = 192 ∨ k = 193 ∨ k = 194 ∨ k = 195 ∨ k = 196 ∨ k = 197 ∨ k = 198 ∨ k = 199 ∨ k = 200 ∨ k = 201 ∨ k = 202 ∨ k = 203 ∨ k = 204 ∨ k = 205 ∨ k = 206 ∨ k = 207 := by omega
  rcases h with rfl | rfl | rfl | rfl | rfl | rfl | rfl | rfl | rfl | rfl | rfl | rfl | rfl | rfl | rfl | rfl
  · exact fg192 H
  · exact fg193 H
  · exact fg194 H
  · exact fg195 H
  · exact fg196 H
  · exact fg197 H
  · exact fg198 H
  · exact fg199 H
  · exact fg200 H
  · exact fg201 H
  · exact fg202 H
  · exact fg203 H
  · exact fg204 H
  · exact fg205 H
  · exact fg206 H
  · exact fg207 H
theorem fgs13 (k : Nat) (h1 : 208 ≤ k) (h2 : k < 224) (H : Heap) : HGood Tryd.prog 22 [.int .u8 (Int.ofNat k)] H (formK H k) := by
  have h : k = 208 ∨ k = 209 ∨ k = 210 ∨ k = 211 ∨ k = 212 ∨ k = 213 ∨ k = 214 ∨ k = 215 ∨ k = 216 ∨ k = 217 ∨ k = 218 ∨ k = 219 ∨ k = 220 ∨ k = 221 ∨ k = 222 ∨ k = 223 := by omega
  rcases h with rfl | rfl | rfl | rfl | rfl | rfl | rfl | rfl | rfl | rfl | rfl | rfl | rfl | rfl | rfl | rfl
  · exact fg208 H
  · exact fg209 H
  · exact fg210 H
  · exact fg211 H
  · exact fg212 H
  · exact fg213 H
  · exact fg214 H
  · exact fg215 H
  · exact fg216 H
  · exact fg217 H
  · exact fg218 H
  · exact fg219 H
  · exact fg220 H
  · exact fg221 H
  · exact fg222 H
  · exact fg223 H
theorem fgs14 (k : Nat) (h1 : 224 ≤ k) (h2 : k < 240) (H : Heap) : HGood Tryd.prog 22 [.int .u8 (Int.ofNat k)] H (formK H k) := by
  have h : k = 224 ∨ k = 225 ∨ k = 226 ∨ k = 227 ∨ k = 228 ∨ k = 229 ∨ k = 230 ∨ k = 231 ∨ k = 232 ∨ k = 233 ∨ k = 234 ∨ k = 235 ∨ k = 236 ∨ k = 237 ∨ k = 238 ∨ k = 239 := by omega
  rcases h with rfl | rfl | rfl | rfl | rfl | rfl | rfl | rfl | rfl | rfl | rfl | rfl | rfl | rfl | rfl | rfl
  · exact fg224 H
  · exact fg225 H
  · exact fg226 H
  · exact fg227 H
  · exact fg228 H
  · exact fg229 H
  · exact fg230 H
  · exact fg231 H
  · exact fg232 H
  · exact fg233 H
  · exact fg234 H
  · exact fg235 H
  · exact fg236 H
  · exact fg237 H
  · exact fg238 H
  · exact fg239 H
theorem fgs15 (k : Nat) (h1 : 240 ≤ k) (h2 : k < 256) (H : Heap) : HGood Tryd.prog 22 [.int .u8 (Int.ofNat k)] H (formK H k) := by
  have h : k = 240 ∨ k = 241 ∨ k = 242 ∨ k = 243 ∨ k = 244 ∨ k = 245 ∨ k = 246 ∨ k = 247 ∨ k = 248 ∨ k = 249 ∨ k = 250 ∨ k = 251 ∨ k = 252 ∨ k = 253 ∨ k = 254 ∨ k = 255 := by omega
  rcases h with rfl | rfl | rfl | rfl | rfl | rfl | rfl | rfl | rfl | rfl | rfl | rfl | rfl | rfl | rfl | rfl
  · exact fg240 H
  · exact fg241 H
  · exact fg242 H
  · exact fg243 H
  · exact fg244 H
  · exact fg245 H
  · exact fg246 H
  · exact fg247 H
  · exact fg248 H
  · exact fg249 H
  · exact fg250 H
  · exact fg251 H
  · exact fg252 H
  · exact fg253 H
  · exact fg254 H
  · exact fg255 H
theorem formT_len : formT.length = 256 := by decide +kernel
theorem form_good (H : Heap) (args : List Value) : HGood Tryd.prog 22 args H (formE H args) := by
  unfold formE
  split
  · rename_i k
    by_cases hk : k < 256
    · rcases Nat.lt_or_ge k 16 with k0 | k0
      · exact fgs0 k (by omega) k0 H
      rcases Nat.lt_or_ge k 32 with k1 | k1
      · exact fgs1 k (by omega) k1 H
      rcases Nat.lt_or_ge k 48 with k2 | k2
      · exact fgs2 k (by omega) k2 H
      rcases Nat.lt_or_ge k 64 with k3 | k3
      · exact fgs3 k (by omega) k3 H
      rcases Nat.lt_or_ge k 80 with k4 | k4
      · exact fgs4 k (by omega) k4 H
      rcases Nat.lt_or_ge k 96 with k5 | k5
      · exact fgs5 k (by omega) k5 H
      rcases Nat.lt_or_ge k 112 with k6 | k6
      · exact fgs6 k (by omega) k6 H
      rcases Nat.lt_or_ge k 128 with k7 | k7
      · exact fgs7 k (by omega) k7 H
      rcases Nat.lt_or_ge k 144 with k8 | k8
      · exact fgs8 k (by omega) k8 H
      rcases Nat.lt_or_ge k 160 with k9 | k9
      · exact fgs9 k (by omega) k9 H
      rcases Nat.lt_or_ge k 176 with k10 | k10
      · exact fgs10 k (by omega) k10 H
      rcases Nat.lt_or_ge k 192 with k11 | k11
      · exact fgs11 k (by omega) k11 H
      rcases Nat.lt_or_ge k 208 with k12 | k12
      · exact fgs12 k (by omega) k12 H
      rcases Nat.lt_or_ge k 224 with k13 | k13
      · exact fgs13 k (by omega) k13 H
      rcases Nat.lt_or_ge k 240 with k14 | k14
      · exact fgs14 k (by omega) k14 H
      exact fgs15 k k14 (by omega) H
    · have : formT[k]? = none := List.getElem?_eq_none (by rw [formT_len]; omega)
      unfold formK; rw [this]; exact trivial
  · exact trivial
noncomputable def zctxF : Ctx := zctx3.withH 22 formE
theorem zctxF_ok : zctxF.Ok Tryd.prog := zctx3_ok.withH form_good
noncomputable def zctxG : Ctx := zctxF |>.withC 8 (conTree zctxF 600 8) |>.withH 11 (hconTree zctxF 600 11)
theorem zctxG_ok : zctxG.Ok Tryd.prog := (zctxF_ok.byCon zctxF_ok 600 8).byRun zctxF_ok 600 11
end Go.Proofs.YtkoeiednpbedlaaDoor
