/- Kinds, at every byte. By program (genzb.py). -/
import Derived.Test.YtkoeiednpbedlaaDoorZKindsa
import Derived.Test.YtkoeiednpbedlaaDoorZKindsb
import Derived.Test.YtkoeiednpbedlaaDoorZKindsc
import Derived.Test.YtkoeiednpbedlaaDoorZKindsd
import Derived.Test.YtkoeiednpbedlaaDoorZKindse
import Derived.Test.YtkoeiednpbedlaaDoorZKindsf
import Derived.Test.YtkoeiednpbedlaaDoorZKindsg
import Derived.Test.YtkoeiednpbedlaaDoorZKindsh
import Derived.KernelRfl
import Derived.OpenShut
namespace Go.Proofs.YtkoeiednpbedlaaDoor
open Go Go.Ly Go.RowKit
set_option linter.unusedVariables false
theorem Kinds_all (n : Nat) (h : n < 256) : yes (Ly.run zctxA 100000 [] (Ly.start Tryd.f6 [.int .u8 ((n : Nat) : Int)] H0)).val? = true := by
  rcases Nat.lt_or_ge n 4 with g0 | g0
  · exact range_all (p := fun n => yes (Ly.run zctxA 100000 [] (Ly.start Tryd.f6 [.int .u8 ((n : Nat) : Int)] H0)).val?) Kinds_0 n (by omega) (by omega)
  rcases Nat.lt_or_ge n 8 with g4 | g4
  · exact range_all (p := fun n => yes (Ly.run zctxA 100000 [] (Ly.start Tryd.f6 [.int .u8 ((n : Nat) : Int)] H0)).val?) Kinds_4 n (by omega) (by omega)
  rcases Nat.lt_or_ge n 12 with g8 | g8
  · exact range_all (p := fun n => yes (Ly.run zctxA 100000 [] (Ly.start Tryd.f6 [.int .u8 ((n : Nat) : Int)] H0)).val?) Kinds_8 n (by omega) (by omega)
  rcases Nat.lt_or_ge n 16 with g12 | g12
  · exact range_all (p := fun n => yes (Ly.run zctxA 100000 [] (Ly.start Tryd.f6 [.int .u8 ((n : Nat) : Int)] H0)).val?) Kinds_12 n (by omega) (by omega)
  rcases Nat.lt_or_ge n 20 with g16 | g16
  · exact range_all (p := fun n => yes (Ly.run zctxA 100000 [] (Ly.start Tryd.f6 [.int .u8 ((n : Nat) : Int)] H0)).val?) Kinds_16 n (by omega) (by omega)
  rcases Nat.lt_or_ge n 24 with g20 | g20
  · exact range_all (p := fun n => yes (Ly.run zctxA 100000 [] (Ly.start Tryd.f6 [.int .u8 ((n : Nat) : Int)] H0)).val?) Kinds_20 n (by omega) (by omega)
  rcases Nat.lt_or_ge n 28 with g24 | g24
  · exact range_all (p := fun n => yes (Ly.run zctxA 100000 [] (Ly.start Tryd.f6 [.int .u8 ((n : Nat) : Int)] H0)).val?) Kinds_24 n (by omega) (by omega)
  rcases Nat.lt_or_ge n 32 with g28 | g28
  · exact range_all (p := fun n => yes (Ly.run zctxA 100000 [] (Ly.start Tryd.f6 [.int .u8 ((n : Nat) : Int)] H0)).val?) Kinds_28 n (by omega) (by omega)
  rcases Nat.lt_or_ge n 36 with g32 | g32
  · exact range_all (p := fun n => yes (Ly.run zctxA 100000 [] (Ly.start Tryd.f6 [.int .u8 ((n : Nat) : Int)] H0)).val?) Kinds_32 n (by omega) (by omega)
  rcases Nat.lt_or_ge n 40 with g36 | g36
  · exact range_all (p := fun n => yes (Ly.run zctxA 100000 [] (Ly.start Tryd.f6 [.int .u8 ((n : Nat) : Int)] H0)).val?) Kinds_36 n (by omega) (by omega)
  rcases Nat.lt_or_ge n 44 with g40 | g40
  · exact range_all (p := fun n => yes (Ly.run zctxA 100000 [] (Ly.start Tryd.f6 [.int .u8 ((n : Nat) : Int)] H0)).val?) Kinds_40 n (by omega) (by omega)
  rcases Nat.lt_or_ge n 48 with g44 | g44
  · exact range_all (p := fun n => yes (Ly.run zctxA 100000 [] (Ly.start Tryd.f6 [.int .u8 ((n : Nat) : Int)] H0)).val?) Kinds_44 n (by omega) (by omega)
  rcases Nat.lt_or_ge n 52 with g48 | g48
  · exact range_all (p := fun n => yes (Ly.run zctxA 100000 [] (Ly.start Tryd.f6 [.int .u8 ((n : Nat) : Int)] H0)).val?) Kinds_48 n (by omega) (by omega)
  rcases Nat.lt_or_ge n 56 with g52 | g52
  · exact range_all (p := fun n => yes (Ly.run zctxA 100000 [] (Ly.start Tryd.f6 [.int .u8 ((n : Nat) : Int)] H0)).val?) Kinds_52 n (by omega) (by omega)
  rcases Nat.lt_or_ge n 60 with g56 | g56
  · exact range_all (p := fun n => yes (Ly.run zctxA 100000 [] (Ly.start Tryd.f6 [.int .u8 ((n : Nat) : Int)] H0)).val?) Kinds_56 n (by omega) (by omega)
  rcases Nat.lt_or_ge n 64 with g60 | g60
  · exact range_all (p := fun n => yes (Ly.run zctxA 100000 [] (Ly.start Tryd.f6 [.int .u8 ((n : Nat) : Int)] H0)).val?) Kinds_60 n (by omega) (by omega)
  rcases Nat.lt_or_ge n 68 with g64 | g64
  · exact range_all (p := fun n => yes (Ly.run zctxA 100000 [] (Ly.start Tryd.f6 [.int .u8 ((n : Nat) : Int)] H0)).val?) Kinds_64 n (by omega) (by omega)
  rcases Nat.lt_or_ge n 72 with g68 | g68
  · exact range_all (p := fun n => yes (Ly.run zctxA 100000 [] (Ly.start Tryd.f6 [.int .u8 ((n : Nat) : Int)] H0)).val?) Kinds_68 n (by omega) (by omega)
  rcases Nat.lt_or_ge n 76 with g72 | g72
  · exact range_all (p := fun n => yes (Ly.run zctxA 100000 [] (Ly.start Tryd.f6 [.int .u8 ((n : Nat) : Int)] H0)).val?) Kinds_72 n (by omega) (by omega)
  rcases Nat.lt_or_ge n 80 with g76 | g76
  · exact range_all (p := fun n => yes (Ly.run zctxA 100000 [] (Ly.start Tryd.f6 [.int .u8 ((n : Nat) : Int)] H0)).val?) Kinds_76 n (by omega) (by omega)
  rcases Nat.lt_or_ge n 84 with g80 | g80
  · exact range_all (p := fun n => yes (Ly.run zctxA 100000 [] (Ly.start Tryd.f6 [.int .u8 ((n : Nat) : Int)] H0)).val?) Kinds_80 n (by omega) (by omega)
  rcases Nat.lt_or_ge n 88 with g84 | g84
  · exact range_all (p := fun n => yes (Ly.run zctxA 100000 [] (Ly.start Tryd.f6 [.int .u8 ((n : Nat) : Int)] H0)).val?) Kinds_84 n (by omega) (by omega)
  rcases Nat.lt_or_ge n 92 with g88 | g88
  · exact range_all (p := fun n => yes (Ly.run zctxA 100000 [] (Ly.start Tryd.f6 [.int .u8 ((n : Nat) : Int)] H0)).val?) Kinds_88 n (by omega) (by omega)
  rcases Nat.lt_or_ge n 96 with g92 | g92
  · exact range_all (p := fun n => yes (Ly.run zctxA 100000 [] (Ly.start Tryd.f6 [.int .u8 ((n : Nat) : Int)] H0)).val?) Kinds_92 n (by omega) (by omega)
  rcases Nat.lt_or_ge n 100 with g96 | g96
  · exact range_all (p := fun n => yes (Ly.run zctxA 100000 [] (Ly.start Tryd.f6 [.int .u8 ((n : Nat) : Int)] H0)).val?) Kinds_96 n (by omega) (by omega)
  rcases Nat.lt_or_ge n 104 with g100 | g100
  · exact range_all (p := fun n => yes (Ly.run zctxA 100000 [] (Ly.start Tryd.f6 [.int .u8 ((n : Nat) : Int)] H0)).val?) Kinds_100 n (by omega) (by omega)
  rcases Nat.lt_or_ge n 108 with g104 | g104
  · exact range_all (p := fun n => yes (Ly.run zctxA 100000 [] (Ly.start Tryd.f6 [.int .u8 ((n : Nat) : Int)] H0)).val?) Kinds_104 n (by omega) (by omega)
  rcases Nat.lt_or_ge n 112 with g108 | g108
  · exact range_all (p := fun n => yes (Ly.run zctxA 100000 [] (Ly.start Tryd.f6 [.int .u8 ((n : Nat) : Int)] H0)).val?) Kinds_108 n (by omega) (by omega)
  rcases Nat.lt_or_ge n 116 with g112 | g112
  · exact range_all (p := fun n => yes (Ly.run zctxA 100000 [] (Ly.start Tryd.f6 [.int .u8 ((n : Nat) : Int)] H0)).val?) Kinds_112 n (by omega) (by omega)
  rcases Nat.lt_or_ge n 120 with g116 | g116
  · exact range_all (p := fun n => yes (Ly.run zctxA 100000 [] (Ly.start Tryd.f6 [.int .u8 ((n : Nat) : Int)] H0)).val?) Kinds_116 n (by omega) (by omega)
  rcases Nat.lt_or_ge n 124 with g120 | g120
  · exact range_all (p := fun n => yes (Ly.run zctxA 100000 [] (Ly.start Tryd.f6 [.int .u8 ((n : Nat) : Int)] H0)).val?) Kinds_120 n (by omega) (by omega)
  rcases Nat.lt_or_ge n 128 with g124 | g124
  · exact range_all (p := fun n => yes (Ly.run zctxA 100000 [] (Ly.start Tryd.f6 [.int .u8 ((n : Nat) : Int)] H0)).val?) Kinds_124 n (by omega) (by omega)
  rcases Nat.lt_or_ge n 132 with g128 | g128
  · exact range_all (p := fun n => yes (Ly.run zctxA 100000 [] (Ly.start Tryd.f6 [.int .u8 ((n : Nat) : Int)] H0)).val?) Kinds_128 n (by omega) (by omega)
  rcases Nat.lt_or_ge n 136 with g132 | g132
  · exact range_all (p := fun n => yes (Ly.run zctxA 100000 [] (Ly.start Tryd.f6 [.int .u8 ((n : Nat) : Int)] H0)).val?) Kinds_132 n (by omega) (by omega)
  rcases Nat.lt_or_ge n 140 with g136 | g136
  · exact range_all (p := fun n => yes (Ly.run zctxA 100000 [] (Ly.start Tryd.f6 [.int .u8 ((n : Nat) : Int)] H0)).val?) Kinds_136 n (by omega) (by omega)
  rcases Nat.lt_or_ge n 144 with g140 | g140
  · exact range_all (p := fun n => yes (Ly.run zctxA 100000 [] (Ly.start Tryd.f6 [.int .u8 ((n : Nat) : Int)] H0)).val?) Kinds_140 n (by omega) (by omega)
  rcases Nat.lt_or_ge n 148 with g144 | g144
  · exact range_all (p := fun n => yes (Ly.run zctxA 100000 [] (Ly.start Tryd.f6 [.int .u8 ((n : Nat) : Int)] H0)).val?) Kinds_144 n (by omega) (by omega)
  rcases Nat.lt_or_ge n 152 with g148 | g148
  · exact range_all (p := fun n => yes (Ly.run zctxA 100000 [] (Ly.start Tryd.f6 [.int .u8 ((n : Nat) : Int)] H0)).val?) Kinds_148 n (by omega) (by omega)
  rcases Nat.lt_or_ge n 156 with g152 | g152
  · exact range_all (p := fun n => yes (Ly.run zctxA 100000 [] (Ly.start Tryd.f6 [.int .u8 ((n : Nat) : Int)] H0)).val?) Kinds_152 n (by omega) (by omega)
  rcases Nat.lt_or_ge n 160 with g156 | g156
  · exact range_all (p := fun n => yes (Ly.run zctxA 100000 [] (Ly.start Tryd.f6 [.int .u8 ((n : Nat) : Int)] H0)).val?) Kinds_156 n (by omega) (by omega)
  rcases Nat.lt_or_ge n 164 with g160 | g160
  · exact range_all (p := fun n => yes (Ly.run zctxA 100000 [] (Ly.start Tryd.f6 [.int .u8 ((n : Nat) : Int)] H0)).val?) Kinds_160 n (by omega) (by omega)
  rcases Nat.lt_or_ge n 168 with g164 | g164
  · exact range_all (p := fun n => yes (Ly.run zctxA 100000 [] (Ly.start Tryd.f6 [.int .u8 ((n : Nat) : Int)] H0)).val?) Kinds_164 n (by omega) (by omega)
  rcases Nat.lt_or_ge n 172 with g168 | g168
  · exact range_all (p := fun n => yes (Ly.run zctxA 100000 [] (Ly.start Tryd.f6 [.int .u8 ((n : Nat) : Int)] H0)).val?) Kinds_168 n (by omega) (by omega)
  rcases Nat.lt_or_ge n 176 with g172 | g172
  · exact range_all (p := fun n => yes (Ly.run zctxA 100000 [] (Ly.start Tryd.f6 [.int .u8 ((n : Nat) : Int)] H0)).val?) Kinds_172 n (by omega) (by omega)
  rcases Nat.lt_or_ge n 180 with g176 | g176
  · exact range_all (p := fun n => yes (Ly.run zctxA 100000 [] (Ly.start Tryd.f6 [.int .u8 ((n : Nat) : Int)] H0)).val?) Kinds_176 n (by omega) (by omega)
  rcases Nat.lt_or_ge n 184 with g180 | g180
  · exact range_all (p := fun n => yes (Ly.run zctxA 100000 [] (Ly.start Tryd.f6 [.int .u8 ((n : Nat) : Int)] H0)).val?) Kinds_180 n (by omega) (by omega)
  rcases Nat.lt_or_ge n 188 with g184 | g184
  · exact range_all (p := fun n => yes (Ly.run zctxA 100000 [] (Ly.start Tryd.f6 [.int .u8 ((n : Nat) : Int)] H0)).val?) Kinds_184 n (by omega) (by omega)
  rcases Nat.lt_or_ge n 192 with g188 | g188
  · exact range_all (p := fun n => yes (Ly.run zctxA 100000 [] (Ly.start Tryd.f6 [.int .u8 ((n : Nat) : Int)] H0)).val?) Kinds_188 n (by omega) (by omega)
  rcases Nat.lt_or_ge n 196 with g192 | g192
  · exact range_all (p := fun n => yes (Ly.run zctxA 100000 [] (Ly.start Tryd.f6 [.int .u8 ((n : Nat) : Int)] H0)).val?) Kinds_192 n (by omega) (by omega)
  rcases Nat.lt_or_ge n 200 with g196 | g196
  · exact range_all (p := fun n => yes (Ly.run zctxA 100000 [] (Ly.start Tryd.f6 [.int .u8 ((n : Nat) : Int)] H0)).val?) Kinds_196 n (by omega) (by omega)
  rcases Nat.lt_or_ge n 204 with g200 | g200
  · exact range_all (p := fun n => yes (Ly.run zctxA 100000 [] (Ly.start Tryd.f6 [.int .u8 ((n : Nat) : Int)] H0)).val?) Kinds_200 n (by omega) (by omega)
  rcases Nat.lt_or_ge n 208 with g204 | g204
  · exact range_all (p := fun n => yes (Ly.run zctxA 100000 [] (Ly.start Tryd.f6 [.int .u8 ((n : Nat) : Int)] H0)).val?) Kinds_204 n (by omega) (by omega)
  rcases Nat.lt_or_ge n 212 with g208 | g208
  · exact range_all (p := fun n => yes (Ly.run zctxA 100000 [] (Ly.start Tryd.f6 [.int .u8 ((n : Nat) : Int)] H0)).val?) Kinds_208 n (by omega) (by omega)
  rcases Nat.lt_or_ge n 216 with g212 | g212
  · exact range_all (p := fun n => yes (Ly.run zctxA 100000 [] (Ly.start Tryd.f6 [.int .u8 ((n : Nat) : Int)] H0)).val?) Kinds_212 n (by omega) (by omega)
  rcases Nat.lt_or_ge n 220 with g216 | g216
  · exact range_all (p := fun n => yes (Ly.run zctxA 100000 [] (Ly.start Tryd.f6 [.int .u8 ((n : Nat) : Int)] H0)).val?) Kinds_216 n (by omega) (by omega)
  rcases Nat.lt_or_ge n 224 with g220 | g220
  · exact range_all (p := fun n => yes (Ly.run zctxA 100000 [] (Ly.start Tryd.f6 [.int .u8 ((n : Nat) : Int)] H0)).val?) Kinds_220 n (by omega) (by omega)
  rcases Nat.lt_or_ge n 228 with g224 | g224
  · exact range_all (p := fun n => yes (Ly.run zctxA 100000 [] (Ly.start Tryd.f6 [.int .u8 ((n : Nat) : Int)] H0)).val?) Kinds_224 n (by omega) (by omega)
  rcases Nat.lt_or_ge n 232 with g228 | g228
  · exact range_all (p := fun n => yes (Ly.run zctxA 100000 [] (Ly.start Tryd.f6 [.int .u8 ((n : Nat) : Int)] H0)).val?) Kinds_228 n (by omega) (by omega)
  rcases Nat.lt_or_ge n 236 with g232 | g232
  · exact range_all (p := fun n => yes (Ly.run zctxA 100000 [] (Ly.start Tryd.f6 [.int .u8 ((n : Nat) : Int)] H0)).val?) Kinds_232 n (by omega) (by omega)
  rcases Nat.lt_or_ge n 240 with g236 | g236
  · exact range_all (p := fun n => yes (Ly.run zctxA 100000 [] (Ly.start Tryd.f6 [.int .u8 ((n : Nat) : Int)] H0)).val?) Kinds_236 n (by omega) (by omega)
  rcases Nat.lt_or_ge n 244 with g240 | g240
  · exact range_all (p := fun n => yes (Ly.run zctxA 100000 [] (Ly.start Tryd.f6 [.int .u8 ((n : Nat) : Int)] H0)).val?) Kinds_240 n (by omega) (by omega)
  rcases Nat.lt_or_ge n 248 with g244 | g244
  · exact range_all (p := fun n => yes (Ly.run zctxA 100000 [] (Ly.start Tryd.f6 [.int .u8 ((n : Nat) : Int)] H0)).val?) Kinds_244 n (by omega) (by omega)
  rcases Nat.lt_or_ge n 252 with g248 | g248
  · exact range_all (p := fun n => yes (Ly.run zctxA 100000 [] (Ly.start Tryd.f6 [.int .u8 ((n : Nat) : Int)] H0)).val?) Kinds_248 n (by omega) (by omega)
  rcases Nat.lt_or_ge n 256 with g252 | g252
  · exact range_all (p := fun n => yes (Ly.run zctxA 100000 [] (Ly.start Tryd.f6 [.int .u8 ((n : Nat) : Int)] H0)).val?) Kinds_252 n (by omega) (by omega)
  omega
theorem Kinds_get : zctxA.fn.get 6 = some Tryd.f6 := by kernel_rfl
theorem kinds_walk (W : World) [FixW W] (v0 : Value) (h0 : CkOk W (.int .u8) v0) : Calls Tryd.prog 6 #[v0] W fun e W' => e = .returned (.bool true) ∧ Below W.heap.size W W' := by
  simp only [CkOk] at h0
  obtain ⟨n, rfl, hn⟩ := h0
  have h2 := bounds_u8 hn
  obtain ⟨m, rfl⟩ := Int.eq_ofNat_of_zero_le h2.1
  exact calls_yes (args := [.int .u8 (m : Int)]) zctxA_ok 100000 Kinds_get (by kernel_rfl) (by simp [VRL, VR]) (Kinds_all m (by omega)) W
end Go.Proofs.YtkoeiednpbedlaaDoor
