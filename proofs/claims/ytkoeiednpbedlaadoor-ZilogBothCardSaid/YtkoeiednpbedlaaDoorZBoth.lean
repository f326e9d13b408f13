/- Both, at every byte. By program (genzb.py). -/
import Derived.Test.YtkoeiednpbedlaaDoorZBotha
import Derived.Test.YtkoeiednpbedlaaDoorZBothb
import Derived.Test.YtkoeiednpbedlaaDoorZBothc
import Derived.Test.YtkoeiednpbedlaaDoorZBothd
import Derived.Test.YtkoeiednpbedlaaDoorZBothe
import Derived.Test.YtkoeiednpbedlaaDoorZBothf
import Derived.Test.YtkoeiednpbedlaaDoorZBothg
import Derived.Test.YtkoeiednpbedlaaDoorZBothh
import Derived.Test.YtkoeiednpbedlaaDoorZBothi
import Derived.Test.YtkoeiednpbedlaaDoorZBothj
import Derived.Test.YtkoeiednpbedlaaDoorZBothk
import Derived.Test.YtkoeiednpbedlaaDoorZBothl
import Derived.Test.YtkoeiednpbedlaaDoorZBothm
import Derived.Test.YtkoeiednpbedlaaDoorZBothn
import Derived.Test.YtkoeiednpbedlaaDoorZBotho
import Derived.Test.YtkoeiednpbedlaaDoorZBothp
import Derived.KernelRfl
import Derived.OpenShut
namespace Go.Proofs.YtkoeiednpbedlaaDoor
open Go Go.Ly Go.RowKit
set_option linter.unusedVariables false
theorem Both_all (n : Nat) (h : n < 256) : yes (Ly.run zctxH 100000 [] (Ly.start Tryd.f7 [.int .u8 ((n : Nat) : Int)] H0)).val? = true := by
  rcases Nat.lt_or_ge n 4 with g0 | g0
  · exact range_all (p := fun n => yes (Ly.run zctxH 100000 [] (Ly.start Tryd.f7 [.int .u8 ((n : Nat) : Int)] H0)).val?) Both_0 n (by omega) (by omega)
  rcases Nat.lt_or_ge n 8 with g4 | g4
  · exact range_all (p := fun n => yes (Ly.run zctxH 100000 [] (Ly.start Tryd.f7 [.int .u8 ((n : Nat) : Int)] H0)).val?) Both_4 n (by omega) (by omega)
  rcases Nat.lt_or_ge n 12 with g8 | g8
  · exact range_all (p := fun n => yes (Ly.run zctxH 100000 [] (Ly.start Tryd.f7 [.int .u8 ((n : Nat) : Int)] H0)).val?) Both_8 n (by omega) (by omega)
  rcases Nat.lt_or_ge n 16 with g12 | g12
  · exact range_all (p := fun n => yes (Ly.run zctxH 100000 [] (Ly.start Tryd.f7 [.int .u8 ((n : Nat) : Int)] H0)).val?) Both_12 n (by omega) (by omega)
  rcases Nat.lt_or_ge n 20 with g16 | g16
  · exact range_all (p := fun n => yes (Ly.run zctxH 100000 [] (Ly.start Tryd.f7 [.int .u8 ((n : Nat) : Int)] H0)).val?) Both_16 n (by omega) (by omega)
  rcases Nat.lt_or_ge n 24 with g20 | g20
  · exact range_all (p := fun n => yes (Ly.run zctxH 100000 [] (Ly.start Tryd.f7 [.int .u8 ((n : Nat) : Int)] H0)).val?) Both_20 n (by omega) (by omega)
  rcases Nat.lt_or_ge n 28 with g24 | g24
  · exact range_all (p := fun n => yes (Ly.run zctxH 100000 [] (Ly.start Tryd.f7 [.int .u8 ((n : Nat) : Int)] H0)).val?) Both_24 n (by omega) (by omega)
  rcases Nat.lt_or_ge n 32 with g28 | g28
  · exact range_all (p := fun n => yes (Ly.run zctxH 100000 [] (Ly.start Tryd.f7 [.int .u8 ((n : Nat) : Int)] H0)).val?) Both_28 n (by omega) (by omega)
  rcases Nat.lt_or_ge n 36 with g32 | g32
  · exact range_all (p := fun n => yes (Ly.run zctxH 100000 [] (Ly.start Tryd.f7 [.int .u8 ((n : Nat) : Int)] H0)).val?) Both_32 n (by omega) (by omega)
  rcases Nat.lt_or_ge n 40 with g36 | g36
  · exact range_all (p := fun n => yes (Ly.run zctxH 100000 [] (Ly.start Tryd.f7 [.int .u8 ((n : Nat) : Int)] H0)).val?) Both_36 n (by omega) (by omega)
  rcases Nat.lt_or_ge n 44 with g40 | g40
  · exact range_all (p := fun n => yes (Ly.run zctxH 100000 [] (Ly.start Tryd.f7 [.int .u8 ((n : Nat) : Int)] H0)).val?) Both_40 n (by omega) (by omega)
  rcases Nat.lt_or_ge n 48 with g44 | g44
  · exact range_all (p := fun n => yes (Ly.run zctxH 100000 [] (Ly.start Tryd.f7 [.int .u8 ((n : Nat) : Int)] H0)).val?) Both_44 n (by omega) (by omega)
  rcases Nat.lt_or_ge n 52 with g48 | g48
  · exact range_all (p := fun n => yes (Ly.run zctxH 100000 [] (Ly.start Tryd.f7 [.int .u8 ((n : Nat) : Int)] H0)).val?) Both_48 n (by omega) (by omega)
  rcases Nat.lt_or_ge n 56 with g52 | g52
  · exact range_all (p := fun n => yes (Ly.run zctxH 100000 [] (Ly.start Tryd.f7 [.int .u8 ((n : Nat) : Int)] H0)).val?) Both_52 n (by omega) (by omega)
  rcases Nat.lt_or_ge n 60 with g56 | g56
  · exact range_all (p := fun n => yes (Ly.run zctxH 100000 [] (Ly.start Tryd.f7 [.int .u8 ((n : Nat) : Int)] H0)).val?) Both_56 n (by omega) (by omega)
  rcases Nat.lt_or_ge n 64 with g60 | g60
  · exact range_all (p := fun n => yes (Ly.run zctxH 100000 [] (Ly.start Tryd.f7 [.int .u8 ((n : Nat) : Int)] H0)).val?) Both_60 n (by omega) (by omega)
  rcases Nat.lt_or_ge n 68 with g64 | g64
  · exact range_all (p := fun n => yes (Ly.run zctxH 100000 [] (Ly.start Tryd.f7 [.int .u8 ((n : Nat) : Int)] H0)).val?) Both_64 n (by omega) (by omega)
  rcases Nat.lt_or_ge n 72 with g68 | g68
  · exact range_all (p := fun n => yes (Ly.run zctxH 100000 [] (Ly.start Tryd.f7 [.int .u8 ((n : Nat) : Int)] H0)).val?) Both_68 n (by omega) (by omega)
  rcases Nat.lt_or_ge n 76 with g72 | g72
  · exact range_all (p := fun n => yes (Ly.run zctxH 100000 [] (Ly.start Tryd.f7 [.int .u8 ((n : Nat) : Int)] H0)).val?) Both_72 n (by omega) (by omega)
  rcases Nat.lt_or_ge n 80 with g76 | g76
  · exact range_all (p := fun n => yes (Ly.run zctxH 100000 [] (Ly.start Tryd.f7 [.int .u8 ((n : Nat) : Int)] H0)).val?) Both_76 n (by omega) (by omega)
  rcases Nat.lt_or_ge n 84 with g80 | g80
  · exact range_all (p := fun n => yes (Ly.run zctxH 100000 [] (Ly.start Tryd.f7 [.int .u8 ((n : Nat) : Int)] H0)).val?) Both_80 n (by omega) (by omega)
  rcases Nat.lt_or_ge n 88 with g84 | g84
  · exact range_all (p := fun n => yes (Ly.run zctxH 100000 [] (Ly.start Tryd.f7 [.int .u8 ((n : Nat) : Int)] H0)).val?) Both_84 n (by omega) (by omega)
  rcases Nat.lt_or_ge n 92 with g88 | g88
  · exact range_all (p := fun n => yes (Ly.run zctxH 100000 [] (Ly.start Tryd.f7 [.int .u8 ((n : Nat) : Int)] H0)).val?) Both_88 n (by omega) (by omega)
  rcases Nat.lt_or_ge n 96 with g92 | g92
  · exact range_all (p := fun n => yes (Ly.run zctxH 100000 [] (Ly.start Tryd.f7 [.int .u8 ((n : Nat) : Int)] H0)).val?) Both_92 n (by omega) (by omega)
  rcases Nat.lt_or_ge n 100 with g96 | g96
  · exact range_all (p := fun n => yes (Ly.run zctxH 100000 [] (Ly.start Tryd.f7 [.int .u8 ((n : Nat) : Int)] H0)).val?) Both_96 n (by omega) (by omega)
  rcases Nat.lt_or_ge n 104 with g100 | g100
  · exact range_all (p := fun n => yes (Ly.run zctxH 100000 [] (Ly.start Tryd.f7 [.int .u8 ((n : Nat) : Int)] H0)).val?) Both_100 n (by omega) (by omega)
  rcases Nat.lt_or_ge n 108 with g104 | g104
  · exact range_all (p := fun n => yes (Ly.run zctxH 100000 [] (Ly.start Tryd.f7 [.int .u8 ((n : Nat) : Int)] H0)).val?) Both_104 n (by omega) (by omega)
  rcases Nat.lt_or_ge n 112 with g108 | g108
  · exact range_all (p := fun n => yes (Ly.run zctxH 100000 [] (Ly.start Tryd.f7 [.int .u8 ((n : Nat) : Int)] H0)).val?) Both_108 n (by omega) (by omega)
  rcases Nat.lt_or_ge n 116 with g112 | g112
  · exact range_all (p := fun n => yes (Ly.run zctxH 100000 [] (Ly.start Tryd.f7 [.int .u8 ((n : Nat) : Int)] H0)).val?) Both_112 n (by omega) (by omega)
  rcases Nat.lt_or_ge n 120 with g116 | g116
  · exact range_all (p := fun n => yes (Ly.run zctxH 100000 [] (Ly.start Tryd.f7 [.int .u8 ((n : Nat) : Int)] H0)).val?) Both_116 n (by omega) (by omega)
  rcases Nat.lt_or_ge n 124 with g120 | g120
  · exact range_all (p := fun n => yes (Ly.run zctxH 100000 [] (Ly.start Tryd.f7 [.int .u8 ((n : Nat) : Int)] H0)).val?) Both_120 n (by omega) (by omega)
  rcases Nat.lt_or_ge n 128 with g124 | g124
  · exact range_all (p := fun n => yes (Ly.run zctxH 100000 [] (Ly.start Tryd.f7 [.int .u8 ((n : Nat) : Int)] H0)).val?) Both_124 n (by omega) (by omega)
  rcases Nat.lt_or_ge n 132 with g128 | g128
  · exact range_all (p := fun n => yes (Ly.run zctxH 100000 [] (Ly.start Tryd.f7 [.int .u8 ((n : Nat) : Int)] H0)).val?) Both_128 n (by omega) (by omega)
  rcases Nat.lt_or_ge n 136 with g132 | g132
  · exact range_all (p := fun n => yes (Ly.run zctxH 100000 [] (Ly.start Tryd.f7 [.int .u8 ((n : Nat) : Int)] H0)).val?) Both_132 n (by omega) (by omega)
  rcases Nat.lt_or_ge n 140 with g136 | g136
  · exact range_all (p := fun n => yes (Ly.run zctxH 100000 [] (Ly.start Tryd.f7 [.int .u8 ((n : Nat) : Int)] H0)).val?) Both_136 n (by omega) (by omega)
  rcases Nat.lt_or_ge n 144 with g140 | g140
  · exact range_all (p := fun n => yes (Ly.run zctxH 100000 [] (Ly.start Tryd.f7 [.int .u8 ((n : Nat) : Int)] H0)).val?) Both_140 n (by omega) (by omega)
  rcases Nat.lt_or_ge n 148 with g144 | g144
  · exact range_all (p := fun n => yes (Ly.run zctxH 100000 [] (Ly.start Tryd.f7 [.int .u8 ((n : Nat) : Int)] H0)).val?) Both_144 n (by omega) (by omega)
  rcases Nat.lt_or_ge n 152 with g148 | g148
  · exact range_all (p := fun n => yes (Ly.run zctxH 100000 [] (Ly.start Tryd.f7 [.int .u8 ((n : Nat) : Int)] H0)).val?) Both_148 n (by omega) (by omega)
  rcases Nat.lt_or_ge n 156 with g152 | g152
  · exact range_all (p := fun n => yes (Ly.run zctxH 100000 [] (Ly.start Tryd.f7 [.int .u8 ((n : Nat) : Int)] H0)).val?) Both_152 n (by omega) (by omega)
  rcases Nat.lt_or_ge n 160 with g156 | g156
  · exact range_all (p := fun n => yes (Ly.run zctxH 100000 [] (Ly.start Tryd.f7 [.int .u8 ((n : Nat) : Int)] H0)).val?) Both_156 n (by omega) (by omega)
  rcases Nat.lt_or_ge n 164 with g160 | g160
  · exact range_all (p := fun n => yes (Ly.run zctxH 100000 [] (Ly.start Tryd.f7 [.int .u8 ((n : Nat) : Int)] H0)).val?) Both_160 n (by omega) (by omega)
  rcases Nat.lt_or_ge n 168 with g164 | g164
  · exact range_all (p := fun n => yes (Ly.run zctxH 100000 [] (Ly.start Tryd.f7 [.int .u8 ((n : Nat) : Int)] H0)).val?) Both_164 n (by omega) (by omega)
  rcases Nat.lt_or_ge n 172 with g168 | g168
  · exact range_all (p := fun n => yes (Ly.run zctxH 100000 [] (Ly.start Tryd.f7 [.int .u8 ((n : Nat) : Int)] H0)).val?) Both_168 n (by omega) (by omega)
  rcases Nat.lt_or_ge n 176 with g172 | g172
  · exact range_all (p := fun n => yes (Ly.run zctxH 100000 [] (Ly.start Tryd.f7 [.int .u8 ((n : Nat) : Int)] H0)).val?) Both_172 n (by omega) (by omega)
  rcases Nat.lt_or_ge n 180 with g176 | g176
  · exact range_all (p := fun n => yes (Ly.run zctxH 100000 [] (Ly.start Tryd.f7 [.int .u8 ((n : Nat) : Int)] H0)).val?) Both_176 n (by omega) (by omega)
  rcases Nat.lt_or_ge n 184 with g180 | g180
  · exact range_all (p := fun n => yes (Ly.run zctxH 100000 [] (Ly.start Tryd.f7 [.int .u8 ((n : Nat) : Int)] H0)).val?) Both_180 n (by omega) (by omega)
  rcases Nat.lt_or_ge n 188 with g184 | g184
  · exact range_all (p := fun n => yes (Ly.run zctxH 100000 [] (Ly.start Tryd.f7 [.int .u8 ((n : Nat) : Int)] H0)).val?) Both_184 n (by omega) (by omega)
  rcases Nat.lt_or_ge n 192 with g188 | g188
  · exact range_all (p := fun n => yes (Ly.run zctxH 100000 [] (Ly.start Tryd.f7 [.int .u8 ((n : Nat) : Int)] H0)).val?) Both_188 n (by omega) (by omega)
  rcases Nat.lt_or_ge n 196 with g192 | g192
  · exact range_all (p := fun n => yes (Ly.run zctxH 100000 [] (Ly.start Tryd.f7 [.int .u8 ((n : Nat) : Int)] H0)).val?) Both_192 n (by omega) (by omega)
  rcases Nat.lt_or_ge n 200 with g196 | g196
  · exact range_all (p := fun n => yes (Ly.run zctxH 100000 [] (Ly.start Tryd.f7 [.int .u8 ((n : Nat) : Int)] H0)).val?) Both_196 n (by omega) (by omega)
  rcases Nat.lt_or_ge n 204 with g200 | g200
  · exact range_all (p := fun n => yes (Ly.run zctxH 100000 [] (Ly.start Tryd.f7 [.int .u8 ((n : Nat) : Int)] H0)).val?) Both_200 n (by omega) (by omega)
  rcases Nat.lt_or_ge n 208 with g204 | g204
  · exact range_all (p := fun n => yes (Ly.run zctxH 100000 [] (Ly.start Tryd.f7 [.int .u8 ((n : Nat) : Int)] H0)).val?) Both_204 n (by omega) (by omega)
  rcases Nat.lt_or_ge n 212 with g208 | g208
  · exact range_all (p := fun n => yes (Ly.run zctxH 100000 [] (Ly.start Tryd.f7 [.int .u8 ((n : Nat) : Int)] H0)).val?) Both_208 n (by omega) (by omega)
  rcases Nat.lt_or_ge n 216 with g212 | g212
  · exact range_all (p := fun n => yes (Ly.run zctxH 100000 [] (Ly.start Tryd.f7 [.int .u8 ((n : Nat) : Int)] H0)).val?) Both_212 n (by omega) (by omega)
  rcases Nat.lt_or_ge n 220 with g216 | g216
  · exact range_all (p := fun n => yes (Ly.run zctxH 100000 [] (Ly.start Tryd.f7 [.int .u8 ((n : Nat) : Int)] H0)).val?) Both_216 n (by omega) (by omega)
  rcases Nat.lt_or_ge n 224 with g220 | g220
  · exact range_all (p := fun n => yes (Ly.run zctxH 100000 [] (Ly.start Tryd.f7 [.int .u8 ((n : Nat) : Int)] H0)).val?) Both_220 n (by omega) (by omega)
  rcases Nat.lt_or_ge n 228 with g224 | g224
  · exact range_all (p := fun n => yes (Ly.run zctxH 100000 [] (Ly.start Tryd.f7 [.int .u8 ((n : Nat) : Int)] H0)).val?) Both_224 n (by omega) (by omega)
  rcases Nat.lt_or_ge n 232 with g228 | g228
  · exact range_all (p := fun n => yes (Ly.run zctxH 100000 [] (Ly.start Tryd.f7 [.int .u8 ((n : Nat) : Int)] H0)).val?) Both_228 n (by omega) (by omega)
  rcases Nat.lt_or_ge n 236 with g232 | g232
  · exact range_all (p := fun n => yes (Ly.run zctxH 100000 [] (Ly.start Tryd.f7 [.int .u8 ((n : Nat) : Int)] H0)).val?) Both_232 n (by omega) (by omega)
  rcases Nat.lt_or_ge n 240 with g236 | g236
  · exact range_all (p := fun n => yes (Ly.run zctxH 100000 [] (Ly.start Tryd.f7 [.int .u8 ((n : Nat) : Int)] H0)).val?) Both_236 n (by omega) (by omega)
  rcases Nat.lt_or_ge n 244 with g240 | g240
  · exact range_all (p := fun n => yes (Ly.run zctxH 100000 [] (Ly.start Tryd.f7 [.int .u8 ((n : Nat) : Int)] H0)).val?) Both_240 n (by omega) (by omega)
  rcases Nat.lt_or_ge n 248 with g244 | g244
  · exact range_all (p := fun n => yes (Ly.run zctxH 100000 [] (Ly.start Tryd.f7 [.int .u8 ((n : Nat) : Int)] H0)).val?) Both_244 n (by omega) (by omega)
  rcases Nat.lt_or_ge n 252 with g248 | g248
  · exact range_all (p := fun n => yes (Ly.run zctxH 100000 [] (Ly.start Tryd.f7 [.int .u8 ((n : Nat) : Int)] H0)).val?) Both_248 n (by omega) (by omega)
  rcases Nat.lt_or_ge n 256 with g252 | g252
  · exact range_all (p := fun n => yes (Ly.run zctxH 100000 [] (Ly.start Tryd.f7 [.int .u8 ((n : Nat) : Int)] H0)).val?) Both_252 n (by omega) (by omega)
  omega
theorem Both_get : zctxH.fn.get 7 = some Tryd.f7 := by kernel_rfl
theorem both_walk (W : World) [FixW W] (v0 : Value) (h0 : CkOk W (.int .u8) v0) : Calls Tryd.prog 7 #[v0] W fun e W' => e = .returned (.bool true) ∧ Below W.heap.size W W' := by
  simp only [CkOk] at h0
  obtain ⟨n, rfl, hn⟩ := h0
  have h2 := bounds_u8 hn
  obtain ⟨m, rfl⟩ := Int.eq_ofNat_of_zero_le h2.1
  exact calls_yes (args := [.int .u8 (m : Int)]) zctxH_ok 100000 Both_get (by kernel_rfl) (by simp [VRL, VR]) (Both_all m (by omega)) W
end Go.Proofs.YtkoeiednpbedlaaDoor
