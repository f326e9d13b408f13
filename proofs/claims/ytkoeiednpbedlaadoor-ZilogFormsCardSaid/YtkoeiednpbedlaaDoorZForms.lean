/- Forms, at every byte. By program (genzb.py). -/
import Derived.Test.YtkoeiednpbedlaaDoorZFormsa
import Derived.Test.YtkoeiednpbedlaaDoorZFormsb
import Derived.Test.YtkoeiednpbedlaaDoorZFormsc
import Derived.Test.YtkoeiednpbedlaaDoorZFormsd
import Derived.Test.YtkoeiednpbedlaaDoorZFormse
import Derived.Test.YtkoeiednpbedlaaDoorZFormsf
import Derived.Test.YtkoeiednpbedlaaDoorZFormsg
import Derived.Test.YtkoeiednpbedlaaDoorZFormsh
import Derived.KernelRfl
import Derived.OpenShut
namespace Go.Proofs.YtkoeiednpbedlaaDoor
open Go Go.Ly Go.RowKit
set_option linter.unusedVariables false
theorem Forms_all (n : Nat) (h : n < 256) : yes (Ly.run zctxA 100000 [] (Ly.start Tryd.f3 [.int .u8 ((n : Nat) : Int)] H0)).val? = true := by
  rcases Nat.lt_or_ge n 4 with g0 | g0
  · exact range_all (p := fun n => yes (Ly.run zctxA 100000 [] (Ly.start Tryd.f3 [.int .u8 ((n : Nat) : Int)] H0)).val?) Forms_0 n (by omega) (by omega)
  rcases Nat.lt_or_ge n 8 with g4 | g4
  · exact range_all (p := fun n => yes (Ly.run zctxA 100000 [] (Ly.start Tryd.f3 [.int .u8 ((n : Nat) : Int)] H0)).val?) Forms_4 n (by omega) (by omega)
  rcases Nat.lt_or_ge n 12 with g8 | g8
  · exact range_all (p := fun n => yes (Ly.run zctxA 100000 [] (Ly.start Tryd.f3 [.int .u8 ((n : Nat) : Int)] H0)).val?) Forms_8 n (by omega) (by omega)
  rcases Nat.lt_or_ge n 16 with g12 | g12
  · exact range_all (p := fun n => yes (Ly.run zctxA 100000 [] (Ly.start Tryd.f3 [.int .u8 ((n : Nat) : Int)] H0)).val?) Forms_12 n (by omega) (by omega)
  rcases Nat.lt_or_ge n 20 with g16 | g16
  · exact range_all (p := fun n => yes (Ly.run zctxA 100000 [] (Ly.start Tryd.f3 [.int .u8 ((n : Nat) : Int)] H0)).val?) Forms_16 n (by omega) (by omega)
  rcases Nat.lt_or_ge n 24 with g20 | g20
  · exact range_all (p := fun n => yes (Ly.run zctxA 100000 [] (Ly.start Tryd.f3 [.int .u8 ((n : Nat) : Int)] H0)).val?) Forms_20 n (by omega) (by omega)
  rcases Nat.lt_or_ge n 28 with g24 | g24
  · exact range_all (p := fun n => yes (Ly.run zctxA 100000 [] (Ly.start Tryd.f3 [.int .u8 ((n : Nat) : Int)] H0)).val?) Forms_24 n (by omega) (by omega)
  rcases Nat.lt_or_ge n 32 with g28 | g28
  · exact range_all (p := fun n => yes (Ly.run zctxA 100000 [] (Ly.start Tryd.f3 [.int .u8 ((n : Nat) : Int)] H0)).val?) Forms_28 n (by omega) (by omega)
  rcases Nat.lt_or_ge n 36 with g32 | g32
  · exact range_all (p := fun n => yes (Ly.run zctxA 100000 [] (Ly.start Tryd.f3 [.int .u8 ((n : Nat) : Int)] H0)).val?) Forms_32 n (by omega) (by omega)
  rcases Nat.lt_or_ge n 40 with g36 | g36
  · exact range_all (p := fun n => yes (Ly.run zctxA 100000 [] (Ly.start Tryd.f3 [.int .u8 ((n : Nat) : Int)] H0)).val?) Forms_36 n (by omega) (by omega)
  rcases Nat.lt_or_ge n 44 with g40 | g40
  · exact range_all (p := fun n => yes (Ly.run zctxA 100000 [] (Ly.start Tryd.f3 [.int .u8 ((n : Nat) : Int)] H0)).val?) Forms_40 n (by omega) (by omega)
  rcases Nat.lt_or_ge n 48 with g44 | g44
  · exact range_all (p := fun n => yes (Ly.run zctxA 100000 [] (Ly.start Tryd.f3 [.int .u8 ((n : Nat) : Int)] H0)).val?) Forms_44 n (by omega) (by omega)
  rcases Nat.lt_or_ge n 52 with g48 | g48
  · exact range_all (p := fun n => yes (Ly.run zctxA 100000 [] (Ly.start Tryd.f3 [.int .u8 ((n : Nat) : Int)] H0)).val?) Forms_48 n (by omega) (by omega)
  rcases Nat.lt_or_ge n 56 with g52 | g52
  · exact range_all (p := fun n => yes (Ly.run zctxA 100000 [] (Ly.start Tryd.f3 [.int .u8 ((n : Nat) : Int)] H0)).val?) Forms_52 n (by omega) (by omega)
  rcases Nat.lt_or_ge n 60 with g56 | g56
  · exact range_all (p := fun n => yes (Ly.run zctxA 100000 [] (Ly.start Tryd.f3 [.int .u8 ((n : Nat) : Int)] H0)).val?) Forms_56 n (by omega) (by omega)
  rcases Nat.lt_or_ge n 64 with g60 | g60
  · exact range_all (p := fun n => yes (Ly.run zctxA 100000 [] (Ly.start Tryd.f3 [.int .u8 ((n : Nat) : Int)] H0)).val?) Forms_60 n (by omega) (by omega)
  rcases Nat.lt_or_ge n 68 with g64 | g64
  · exact range_all (p := fun n => yes (Ly.run zctxA 100000 [] (Ly.start Tryd.f3 [.int .u8 ((n : Nat) : Int)] H0)).val?) Forms_64 n (by omega) (by omega)
  rcases Nat.lt_or_ge n 72 with g68 | g68
  · exact range_all (p := fun n => yes (Ly.run zctxA 100000 [] (Ly.start Tryd.f3 [.int .u8 ((n : Nat) : Int)] H0)).val?) Forms_68 n (by omega) (by omega)
  rcases Nat.lt_or_ge n 76 with g72 | g72
  · exact range_all (p := fun n => yes (Ly.run zctxA 100000 [] (Ly.start Tryd.f3 [.int .u8 ((n : Nat) : Int)] H0)).val?) Forms_72 n (by omega) (by omega)
  rcases Nat.lt_or_ge n 80 with g76 | g76
  · exact range_all (p := fun n => yes (Ly.run zctxA 100000 [] (Ly.start Tryd.f3 [.int .u8 ((n : Nat) : Int)] H0)).val?) Forms_76 n (by omega) (by omega)
  rcases Nat.lt_or_ge n 84 with g80 | g80
  · exact range_all (p := fun n => yes (Ly.run zctxA 100000 [] (Ly.start Tryd.f3 [.int .u8 ((n : Nat) : Int)] H0)).val?) Forms_80 n (by omega) (by omega)
  rcases Nat.lt_or_ge n 88 with g84 | g84
  · exact range_all (p := fun n => yes (Ly.run zctxA 100000 [] (Ly.start Tryd.f3 [.int .u8 ((n : Nat) : Int)] H0)).val?) Forms_84 n (by omega) (by omega)
  rcases Nat.lt_or_ge n 92 with g88 | g88
  · exact range_all (p := fun n => yes (Ly.run zctxA 100000 [] (Ly.start Tryd.f3 [.int .u8 ((n : Nat) : Int)] H0)).val?) Forms_88 n (by omega) (by omega)
  rcases Nat.lt_or_ge n 96 with g92 | g92
  · exact range_all (p := fun n => yes (Ly.run zctxA 100000 [] (Ly.start Tryd.f3 [.int .u8 ((n : Nat) : Int)] H0)).val?) Forms_92 n (by omega) (by omega)
  rcases Nat.lt_or_ge n 100 with g96 | g96
  · exact range_all (p := fun n => yes (Ly.run zctxA 100000 [] (Ly.start Tryd.f3 [.int .u8 ((n : Nat) : Int)] H0)).val?) Forms_96 n (by omega) (by omega)
  rcases Nat.lt_or_ge n 104 with g100 | g100
  · exact range_all (p := fun n => yes (Ly.run zctxA 100000 [] (Ly.start Tryd.f3 [.int .u8 ((n : Nat) : Int)] H0)).val?) Forms_100 n (by omega) (by omega)
  rcases Nat.lt_or_ge n 108 with g104 | g104
  · exact range_all (p := fun n => yes (Ly.run zctxA 100000 [] (Ly.start Tryd.f3 [.int .u8 ((n : Nat) : Int)] H0)).val?) Forms_104 n (by omega) (by omega)
  rcases Nat.lt_or_ge n 112 with g108 | g108
  · exact range_all (p := fun n => yes (Ly.run zctxA 100000 [] (Ly.start Tryd.f3 [.int .u8 ((n : Nat) : Int)] H0)).val?) Forms_108 n (by omega) (by omega)
  rcases Nat.lt_or_ge n 116 with g112 | g112
  · exact range_all (p := fun n => yes (Ly.run zctxA 100000 [] (Ly.start Tryd.f3 [.int .u8 ((n : Nat) : Int)] H0)).val?) Forms_112 n (by omega) (by omega)
  rcases Nat.lt_or_ge n 120 with g116 | g116
  · exact range_all (p := fun n => yes (Ly.run zctxA 100000 [] (Ly.start Tryd.f3 [.int .u8 ((n : Nat) : Int)] H0)).val?) Forms_116 n (by omega) (by omega)
  rcases Nat.lt_or_ge n 124 with g120 | g120
  · exact range_all (p := fun n => yes (Ly.run zctxA 100000 [] (Ly.start Tryd.f3 [.int .u8 ((n : Nat) : Int)] H0)).val?) Forms_120 n (by omega) (by omega)
  rcases Nat.lt_or_ge n 128 with g124 | g124
  · exact range_all (p := fun n => yes (Ly.run zctxA 100000 [] (Ly.start Tryd.f3 [.int .u8 ((n : Nat) : Int)] H0)).val?) Forms_124 n (by omega) (by omega)
  rcases Nat.lt_or_ge n 132 with g128 | g128
  · exact range_all (p := fun n => yes (Ly.run zctxA 100000 [] (Ly.start Tryd.f3 [.int .u8 ((n : Nat) : Int)] H0)).val?) Forms_128 n (by omega) (by omega)
  rcases Nat.lt_or_ge n 136 with g132 | g132
  · exact range_all (p := fun n => yes (Ly.run zctxA 100000 [] (Ly.start Tryd.f3 [.int .u8 ((n : Nat) : Int)] H0)).val?) Forms_132 n (by omega) (by omega)
  rcases Nat.lt_or_ge n 140 with g136 | g136
  · exact range_all (p := fun n => yes (Ly.run zctxA 100000 [] (Ly.start Tryd.f3 [.int .u8 ((n : Nat) : Int)] H0)).val?) Forms_136 n (by omega) (by omega)
  rcases Nat.lt_or_ge n 144 with g140 | g140
  · exact range_all (p := fun n => yes (Ly.run zctxA 100000 [] (Ly.start Tryd.f3 [.int .u8 ((n : Nat) : Int)] H0)).val?) Forms_140 n (by omega) (by omega)
  rcases Nat.lt_or_ge n 148 with g144 | g144
  · exact range_all (p := fun n => yes (Ly.run zctxA 100000 [] (Ly.start Tryd.f3 [.int .u8 ((n : Nat) : Int)] H0)).val?) Forms_144 n (by omega) (by omega)
  rcases Nat.lt_or_ge n 152 with g148 | g148
  · exact range_all (p := fun n => yes (Ly.run zctxA 100000 [] (Ly.start Tryd.f3 [.int .u8 ((n : Nat) : Int)] H0)).val?) Forms_148 n (by omega) (by omega)
  rcases Nat.lt_or_ge n 156 with g152 | g152
  · exact range_all (p := fun n => yes (Ly.run zctxA 100000 [] (Ly.start Tryd.f3 [.int .u8 ((n : Nat) : Int)] H0)).val?) Forms_152 n (by omega) (by omega)
  rcases Nat.lt_or_ge n 160 with g156 | g156
  · exact range_all (p := fun n => yes (Ly.run zctxA 100000 [] (Ly.start Tryd.f3 [.int .u8 ((n : Nat) : Int)] H0)).val?) Forms_156 n (by omega) (by omega)
  rcases Nat.lt_or_ge n 164 with g160 | g160
  · exact range_all (p := fun n => yes (Ly.run zctxA 100000 [] (Ly.start Tryd.f3 [.int .u8 ((n : Nat) : Int)] H0)).val?) Forms_160 n (by omega) (by omega)
  rcases Nat.lt_or_ge n 168 with g164 | g164
  · exact range_all (p := fun n => yes (Ly.run zctxA 100000 [] (Ly.start Tryd.f3 [.int .u8 ((n : Nat) : Int)] H0)).val?) Forms_164 n (by omega) (by omega)
  rcases Nat.lt_or_ge n 172 with g168 | g168
  · exact range_all (p := fun n => yes (Ly.run zctxA 100000 [] (Ly.start Tryd.f3 [.int .u8 ((n : Nat) : Int)] H0)).val?) Forms_168 n (by omega) (by omega)
  rcases Nat.lt_or_ge n 176 with g172 | g172
  · exact range_all (p := fun n => yes (Ly.run zctxA 100000 [] (Ly.start Tryd.f3 [.int .u8 ((n : Nat) : Int)] H0)).val?) Forms_172 n (by omega) (by omega)
  rcases Nat.lt_or_ge n 180 with g176 | g176
  · exact range_all (p := fun n => yes (Ly.run zctxA 100000 [] (Ly.start Tryd.f3 [.int .u8 ((n : Nat) : Int)] H0)).val?) Forms_176 n (by omega) (by omega)
  rcases Nat.lt_or_ge n 184 with g180 | g180
  · exact range_all (p := fun n => yes (Ly.run zctxA 100000 [] (Ly.start Tryd.f3 [.int .u8 ((n : Nat) : Int)] H0)).val?) Forms_180 n (by omega) (by omega)
  rcases Nat.lt_or_ge n 188 with g184 | g184
  · exact range_all (p := fun n => yes (Ly.run zctxA 100000 [] (Ly.start Tryd.f3 [.int .u8 ((n : Nat) : Int)] H0)).val?) Forms_184 n (by omega) (by omega)
  rcases Nat.lt_or_ge n 192 with g188 | g188
  · exact range_all (p := fun n => yes (Ly.run zctxA 100000 [] (Ly.start Tryd.f3 [.int .u8 ((n : Nat) : Int)] H0)).val?) Forms_188 n (by omega) (by omega)
  rcases Nat.lt_or_ge n 196 with g192 | g192
  · exact range_all (p := fun n => yes (Ly.run zctxA 100000 [] (Ly.start Tryd.f3 [.int .u8 ((n : Nat) : Int)] H0)).val?) Forms_192 n (by omega) (by omega)
  rcases Nat.lt_or_ge n 200 with g196 | g196
  · exact range_all (p := fun n => yes (Ly.run zctxA 100000 [] (Ly.start Tryd.f3 [.int .u8 ((n : Nat) : Int)] H0)).val?) Forms_196 n (by omega) (by omega)
  rcases Nat.lt_or_ge n 204 with g200 | g200
  · exact range_all (p := fun n => yes (Ly.run zctxA 100000 [] (Ly.start Tryd.f3 [.int .u8 ((n : Nat) : Int)] H0)).val?) Forms_200 n (by omega) (by omega)
  rcases Nat.lt_or_ge n 208 with g204 | g204
  · exact range_all (p := fun n => yes (Ly.run zctxA 100000 [] (Ly.start Tryd.f3 [.int .u8 ((n : Nat) : Int)] H0)).val?) Forms_204 n (by omega) (by omega)
  rcases Nat.lt_or_ge n 212 with g208 | g208
  · exact range_all (p := fun n => yes (Ly.run zctxA 100000 [] (Ly.start Tryd.f3 [.int .u8 ((n : Nat) : Int)] H0)).val?) Forms_208 n (by omega) (by omega)
  rcases Nat.lt_or_ge n 216 with g212 | g212
  · exact range_all (p := fun n => yes (Ly.run zctxA 100000 [] (Ly.start Tryd.f3 [.int .u8 ((n : Nat) : Int)] H0)).val?) Forms_212 n (by omega) (by omega)
  rcases Nat.lt_or_ge n 220 with g216 | g216
  · exact range_all (p := fun n => yes (Ly.run zctxA 100000 [] (Ly.start Tryd.f3 [.int .u8 ((n : Nat) : Int)] H0)).val?) Forms_216 n (by omega) (by omega)
  rcases Nat.lt_or_ge n 224 with g220 | g220
  · exact range_all (p := fun n => yes (Ly.run zctxA 100000 [] (Ly.start Tryd.f3 [.int .u8 ((n : Nat) : Int)] H0)).val?) Forms_220 n (by omega) (by omega)
  rcases Nat.lt_or_ge n 228 with g224 | g224
  · exact range_all (p := fun n => yes (Ly.run zctxA 100000 [] (Ly.start Tryd.f3 [.int .u8 ((n : Nat) : Int)] H0)).val?) Forms_224 n (by omega) (by omega)
  rcases Nat.lt_or_ge n 232 with g228 | g228
  · exact range_all (p := fun n => yes (Ly.run zctxA 100000 [] (Ly.start Tryd.f3 [.int .u8 ((n : Nat) : Int)] H0)).val?) Forms_228 n (by omega) (by omega)
  rcases Nat.lt_or_ge n 236 with g232 | g232
  · exact range_all (p := fun n => yes (Ly.run zctxA 100000 [] (Ly.start Tryd.f3 [.int .u8 ((n : Nat) : Int)] H0)).val?) Forms_232 n (by omega) (by omega)
  rcases Nat.lt_or_ge n 240 with g236 | g236
  · exact range_all (p := fun n => yes (Ly.run zctxA 100000 [] (Ly.start Tryd.f3 [.int .u8 ((n : Nat) : Int)] H0)).val?) Forms_236 n (by omega) (by omega)
  rcases Nat.lt_or_ge n 244 with g240 | g240
  · exact range_all (p := fun n => yes (Ly.run zctxA 100000 [] (Ly.start Tryd.f3 [.int .u8 ((n : Nat) : Int)] H0)).val?) Forms_240 n (by omega) (by omega)
  rcases Nat.lt_or_ge n 248 with g244 | g244
  · exact range_all (p := fun n => yes (Ly.run zctxA 100000 [] (Ly.start Tryd.f3 [.int .u8 ((n : Nat) : Int)] H0)).val?) Forms_244 n (by omega) (by omega)
  rcases Nat.lt_or_ge n 252 with g248 | g248
  · exact range_all (p := fun n => yes (Ly.run zctxA 100000 [] (Ly.start Tryd.f3 [.int .u8 ((n : Nat) : Int)] H0)).val?) Forms_248 n (by omega) (by omega)
  rcases Nat.lt_or_ge n 256 with g252 | g252
  · exact range_all (p := fun n => yes (Ly.run zctxA 100000 [] (Ly.start Tryd.f3 [.int .u8 ((n : Nat) : Int)] H0)).val?) Forms_252 n (by omega) (by omega)
  omega
theorem Forms_get : zctxA.fn.get 3 = some Tryd.f3 := by kernel_rfl
theorem forms_walk (W : World) [FixW W] (v0 : Value) (h0 : CkOk W (.int .u8) v0) : Calls Tryd.prog 3 #[v0] W fun e W' => e = .returned (.bool true) ∧ Below W.heap.size W W' := by
  simp only [CkOk] at h0
  obtain ⟨n, rfl, hn⟩ := h0
  have h2 := bounds_u8 hn
  obtain ⟨m, rfl⟩ := Int.eq_ofNat_of_zero_le h2.1
  exact calls_yes (args := [.int .u8 (m : Int)]) zctxA_ok 100000 Forms_get (by kernel_rfl) (by simp [VRL, VR]) (Forms_all m (by omega)) W
end Go.Proofs.YtkoeiednpbedlaaDoor
