/- The tables of types and functions of this seat, for the evaluator. By program (ctx.py). -/
import Derived.Test.YtofimkcfenemlaaProg
import Derived.Test.YtofimkcfenemlaaLyV
namespace Go.Proofs.Ytofimkcfenemlaa
open Go.Ly
noncomputable def tys : List (Nat × TI) := [
  (0, ⟨Try.t0.desc, Try.t0.size, Try.t0.zero, Try.t0.bytes, false⟩),
  (1, ⟨Try.t1.desc, Try.t1.size, Try.t1.zero, Try.t1.bytes, false⟩),
  (2, ⟨Try.t2.desc, Try.t2.size, Try.t2.zero, Try.t2.bytes, false⟩),
  (3, ⟨Try.t3.desc, Try.t3.size, Try.t3.zero, Try.t3.bytes, false⟩),
  (4, ⟨Try.t4.desc, Try.t4.size, Try.t4.zero, Try.t4.bytes, false⟩),
  (5, ⟨Try.t5.desc, Try.t5.size, Try.t5.zero, Try.t5.bytes, false⟩),
  (6, ⟨Try.t5.desc, Try.t6.size, Try.t6.zero, Try.t6.bytes, false⟩),
  (7, ⟨Try.t7.desc, Try.t7.size, Try.t7.zero, Try.t7.bytes, false⟩),
  (8, ⟨Try.t7.desc, Try.t8.size, Try.t8.zero, Try.t8.bytes, false⟩),
  (9, ⟨Try.t9.desc, Try.t9.size, Try.t9.zero, Try.t9.bytes, false⟩),
  (10, ⟨Try.t9.desc, Try.t10.size, Try.t10.zero, Try.t10.bytes, false⟩),
  (11, ⟨Try.t9.desc, Try.t11.size, Try.t11.zero, Try.t11.bytes, false⟩),
  (12, ⟨Try.t12.desc, Try.t12.size, Try.t12.zero, Try.t12.bytes, false⟩),
  (13, ⟨Try.t13.desc, Try.t13.size, Try.t13.zero, Try.t13.bytes, false⟩),
  (14, ⟨Try.t13.desc, Try.t14.size, Try.t14.zero, Try.t14.bytes, false⟩),
  (15, ⟨Try.t15.desc, Try.t15.size, Try.t15.zero, Try.t15.bytes, false⟩),
  (16, ⟨Try.t16.desc, Try.t16.size, Try.t16.zero, Try.t16.bytes, false⟩),
  (17, ⟨Try.t17.desc, Try.t17.size, Try.t17.zero, Try.t17.bytes, false⟩),
  (18, ⟨Try.t18.desc, Try.t18.size, Try.t18.zero, Try.t18.bytes, false⟩),
  (19, ⟨Try.t18.desc, Try.t19.size, Try.t19.zero, Try.t19.bytes, false⟩),
  (20, ⟨Try.t20.desc, Try.t20.size, Try.t20.zero, Try.t20.bytes, false⟩),
  (21, ⟨Try.t21.desc, Try.t21.size, Try.t21.zero, Try.t21.bytes, false⟩),
  (22, ⟨Try.t22.desc, Try.t22.size, Try.t22.zero, Try.t22.bytes, false⟩),
  (23, ⟨Try.t23.desc, Try.t23.size, Try.t23.zero, Try.t23.bytes, false⟩),
  (24, ⟨Try.t24.desc, Try.t24.size, Try.t24.zero, Try.t24.bytes, false⟩),
  (25, ⟨Try.t25.desc, Try.t25.size, Try.t25.zero, Try.t25.bytes, false⟩),
  (26, ⟨Try.t26.desc, Try.t26.size, Try.t26.zero, Try.t26.bytes, false⟩),
  (27, ⟨Try.t27.desc, Try.t27.size, Try.t27.zero, Try.t27.bytes, false⟩),
  (28, ⟨Try.t28.desc, Try.t28.size, Try.t28.zero, Try.t28.bytes, false⟩),
  (29, ⟨Try.t29.desc, Try.t29.size, Try.t29.zero, Try.t29.bytes, false⟩),
  (30, ⟨Try.t30.desc, Try.t30.size, Try.t30.zero, Try.t30.bytes, false⟩),
  (31, ⟨Try.t31.desc, Try.t31.size, Try.t31.zero, Try.t31.bytes, false⟩),
  (32, ⟨Try.t3.desc, Try.t32.size, Try.t32.zero, Try.t32.bytes, false⟩),
  (33, ⟨Try.t33.desc, Try.t33.size, Try.t33.zero, Try.t33.bytes, false⟩),
  (34, ⟨Try.t34.desc, Try.t34.size, Try.t34.zero, Try.t34.bytes, false⟩),
  (35, ⟨Try.t35.desc, Try.t35.size, Try.t35.zero, Try.t35.bytes, false⟩),
  (36, ⟨Try.t35.desc, Try.t36.size, Try.t36.zero, Try.t36.bytes, true⟩),
  (37, ⟨Try.t37.desc, Try.t37.size, Try.t37.zero, Try.t37.bytes, false⟩),
  (38, ⟨Try.t38.desc, Try.t38.size, Try.t38.zero, Try.t38.bytes, false⟩),
  (39, ⟨Try.t39.desc, Try.t39.size, Try.t39.zero, Try.t39.bytes, false⟩),
  (40, ⟨Try.t40.desc, Try.t40.size, Try.t40.zero, Try.t40.bytes, false⟩),
  (41, ⟨Try.t41.desc, Try.t41.size, Try.t41.zero, Try.t41.bytes, false⟩),
  (42, ⟨Try.t42.desc, Try.t42.size, Try.t42.zero, Try.t42.bytes, false⟩),
  (43, ⟨Try.t43.desc, Try.t43.size, Try.t43.zero, Try.t43.bytes, false⟩),
  (44, ⟨Try.t44.desc, Try.t44.size, Try.t44.zero, Try.t44.bytes, false⟩),
  (45, ⟨Try.t45.desc, Try.t45.size, Try.t45.zero, Try.t45.bytes, false⟩),
  (46, ⟨Try.t46.desc, Try.t46.size, Try.t46.zero, Try.t46.bytes, false⟩),
  (47, ⟨Try.t47.desc, Try.t47.size, Try.t47.zero, Try.t47.bytes, false⟩),
  (48, ⟨Try.t48.desc, Try.t48.size, Try.t48.zero, Try.t48.bytes, false⟩),
  (49, ⟨Try.t49.desc, Try.t49.size, Try.t49.zero, Try.t49.bytes, false⟩),
  (50, ⟨Try.t50.desc, Try.t50.size, Try.t50.zero, Try.t50.bytes, false⟩),
  (51, ⟨Try.t51.desc, Try.t51.size, Try.t51.zero, Try.t51.bytes, false⟩),
  (52, ⟨Try.t52.desc, Try.t52.size, Try.t52.zero, Try.t52.bytes, false⟩),
  (53, ⟨Try.t53.desc, Try.t53.size, Try.t53.zero, Try.t53.bytes, false⟩),
  (54, ⟨Try.t54.desc, Try.t54.size, Try.t54.zero, Try.t54.bytes, false⟩),
  (55, ⟨Try.t55.desc, Try.t55.size, Try.t55.zero, Try.t55.bytes, false⟩),
  (56, ⟨Try.t55.desc, Try.t56.size, Try.t56.zero, Try.t56.bytes, false⟩),
  (57, ⟨Try.t57.desc, Try.t57.size, Try.t57.zero, Try.t57.bytes, false⟩),
  (58, ⟨Try.t58.desc, Try.t58.size, Try.t58.zero, Try.t58.bytes, false⟩),
  (59, ⟨Try.t58.desc, Try.t59.size, Try.t59.zero, Try.t59.bytes, false⟩),
  (60, ⟨Try.t60.desc, Try.t60.size, Try.t60.zero, Try.t60.bytes, false⟩),
  (61, ⟨Try.t61.desc, Try.t61.size, Try.t61.zero, Try.t61.bytes, false⟩),
  (62, ⟨Try.t5.desc, Try.t62.size, Try.t62.zero, Try.t62.bytes, false⟩),
  (63, ⟨Try.t5.desc, Try.t63.size, Try.t63.zero, Try.t63.bytes, false⟩),
  (64, ⟨Try.t64.desc, Try.t64.size, Try.t64.zero, Try.t64.bytes, false⟩),
  (65, ⟨Try.t65.desc, Try.t65.size, Try.t65.zero, Try.t65.bytes, false⟩),
  (66, ⟨Try.t21.desc, Try.t66.size, Try.t66.zero, Try.t66.bytes, false⟩),
  (67, ⟨Try.t21.desc, Try.t67.size, Try.t67.zero, Try.t67.bytes, false⟩),
  (68, ⟨Try.t68.desc, Try.t68.size, Try.t68.zero, Try.t68.bytes, false⟩),
  (69, ⟨Try.t68.desc, Try.t69.size, Try.t69.zero, Try.t69.bytes, false⟩),
  (70, ⟨Try.t70.desc, Try.t70.size, Try.t70.zero, Try.t70.bytes, false⟩)]
noncomputable def fns : List (Nat × Func) := [(3, Try.f3), (4, Try.f4), (5, Try.f5), (6, Try.f6), (7, Try.f7), (8, Try.f8), (9, Try.f9), (10, Try.f10), (11, Try.f11), (12, Try.f12), (13, Try.f13), (14, Try.f14), (15, Try.f15), (16, Try.f16), (17, Try.f17), (18, Try.f18), (19, Try.f19), (20, Try.f20), (21, Try.f21), (22, Try.f22), (23, Try.f23), (24, Try.f24), (25, Try.f25), (26, Try.f26), (27, Try.f27), (28, Try.f28), (29, Try.f29), (30, Try.f30), (31, Try.f31), (32, Try.f32), (33, Try.f33), (34, Try.f34), (35, Try.f35), (36, Try.f36), (37, Try.f37), (38, Try.f38), (39, Try.f39), (40, Try.f40), (41, Try.f41), (42, Try.f42)]
theorem ty0 : TyOk Try.prog 0 ⟨Try.t0.desc, Try.t0.size, Try.t0.zero, Try.t0.bytes, false⟩ := ⟨by kernel_rfl, ⟨Try.t0, by kernel_rfl, rfl, rfl, rfl⟩, fun h => (by cases h)⟩
theorem ty1 : TyOk Try.prog 1 ⟨Try.t1.desc, Try.t1.size, Try.t1.zero, Try.t1.bytes, false⟩ := ⟨by kernel_rfl, ⟨Try.t1, by kernel_rfl, rfl, rfl, rfl⟩, fun h => (by cases h)⟩
theorem ty2 : TyOk Try.prog 2 ⟨Try.t2.desc, Try.t2.size, Try.t2.zero, Try.t2.bytes, false⟩ := ⟨by kernel_rfl, ⟨Try.t2, by kernel_rfl, rfl, rfl, rfl⟩, fun h => (by cases h)⟩
theorem ty3 : TyOk Try.prog 3 ⟨Try.t3.desc, Try.t3.size, Try.t3.zero, Try.t3.bytes, false⟩ := ⟨by kernel_rfl, ⟨Try.t3, by kernel_rfl, rfl, rfl, rfl⟩, fun h => (by cases h)⟩
theorem ty4 : TyOk Try.prog 4 ⟨Try.t4.desc, Try.t4.size, Try.t4.zero, Try.t4.bytes, false⟩ := ⟨by kernel_rfl, ⟨Try.t4, by kernel_rfl, rfl, rfl, rfl⟩, fun h => (by cases h)⟩
theorem ty5 : TyOk Try.prog 5 ⟨Try.t5.desc, Try.t5.size, Try.t5.zero, Try.t5.bytes, false⟩ := ⟨by kernel_rfl, ⟨Try.t5, by kernel_rfl, rfl, rfl, rfl⟩, fun h => (by cases h)⟩
theorem ty6 : TyOk Try.prog 6 ⟨Try.t5.desc, Try.t6.size, Try.t6.zero, Try.t6.bytes, false⟩ := ⟨by kernel_rfl, ⟨Try.t6, by kernel_rfl, rfl, rfl, rfl⟩, fun h => (by cases h)⟩
theorem ty7 : TyOk Try.prog 7 ⟨Try.t7.desc, Try.t7.size, Try.t7.zero, Try.t7.bytes, false⟩ := ⟨by kernel_rfl, ⟨Try.t7, by kernel_rfl, rfl, rfl, rfl⟩, fun h => (by cases h)⟩
theorem ty8 : TyOk Try.prog 8 ⟨Try.t7.desc, Try.t8.size, Try.t8.zero, Try.t8.bytes, false⟩ := ⟨by kernel_rfl, ⟨Try.t8, by kernel_rfl, rfl, rfl, rfl⟩, fun h => (by cases h)⟩
theorem ty9 : TyOk Try.prog 9 ⟨Try.t9.desc, Try.t9.size, Try.t9.zero, Try.t9.bytes, false⟩ := ⟨by kernel_rfl, ⟨Try.t9, by kernel_rfl, rfl, rfl, rfl⟩, fun h => (by cases h)⟩
theorem ty10 : TyOk Try.prog 10 ⟨Try.t9.desc, Try.t10.size, Try.t10.zero, Try.t10.bytes, false⟩ := ⟨by kernel_rfl, ⟨Try.t10, by kernel_rfl, rfl, rfl, rfl⟩, fun h => (by cases h)⟩
theorem ty11 : TyOk Try.prog 11 ⟨Try.t9.desc, Try.t11.size, Try.t11.zero, Try.t11.bytes, false⟩ := ⟨by kernel_rfl, ⟨Try.t11, by kernel_rfl, rfl, rfl, rfl⟩, fun h => (by cases h)⟩
theorem ty12 : TyOk Try.prog 12 ⟨Try.t12.desc, Try.t12.size, Try.t12.zero, Try.t12.bytes, false⟩ := ⟨by kernel_rfl, ⟨Try.t12, by kernel_rfl, rfl, rfl, rfl⟩, fun h => (by cases h)⟩
theorem ty13 : TyOk Try.prog 13 ⟨Try.t13.desc, Try.t13.size, Try.t13.zero, Try.t13.bytes, false⟩ := ⟨by kernel_rfl, ⟨Try.t13, by kernel_rfl, rfl, rfl, rfl⟩, fun h => (by cases h)⟩
theorem ty14 : TyOk Try.prog 14 ⟨Try.t13.desc, Try.t14.size, Try.t14.zero, Try.t14.bytes, false⟩ := ⟨by kernel_rfl, ⟨Try.t14, by kernel_rfl, rfl, rfl, rfl⟩, fun h => (by cases h)⟩
theorem ty15 : TyOk Try.prog 15 ⟨Try.t15.desc, Try.t15.size, Try.t15.zero, Try.t15.bytes, false⟩ := ⟨by kernel_rfl, ⟨Try.t15, by kernel_rfl, rfl, rfl, rfl⟩, fun h => (by cases h)⟩
theorem ty16 : TyOk Try.prog 16 ⟨Try.t16.desc, Try.t16.size, Try.t16.zero, Try.t16.bytes, false⟩ := ⟨by kernel_rfl, ⟨Try.t16, by kernel_rfl, rfl, rfl, rfl⟩, fun h => (by cases h)⟩
theorem ty17 : TyOk Try.prog 17 ⟨Try.t17.desc, Try.t17.size, Try.t17.zero, Try.t17.bytes, false⟩ := ⟨by kernel_rfl, ⟨Try.t17, by kernel_rfl, rfl, rfl, rfl⟩, fun h => (by cases h)⟩
theorem ty18 : TyOk Try.prog 18 ⟨Try.t18.desc, Try.t18.size, Try.t18.zero, Try.t18.bytes, false⟩ := ⟨by kernel_rfl, ⟨Try.t18, by kernel_rfl, rfl, rfl, rfl⟩, fun h => (by cases h)⟩
theorem ty19 : TyOk Try.prog 19 ⟨Try.t18.desc, Try.t19.size, Try.t19.zero, Try.t19.bytes, false⟩ := ⟨by kernel_rfl, ⟨Try.t19, by kernel_rfl, rfl, rfl, rfl⟩, fun h => (by cases h)⟩
theorem ty20 : TyOk Try.prog 20 ⟨Try.t20.desc, Try.t20.size, Try.t20.zero, Try.t20.bytes, false⟩ := ⟨by kernel_rfl, ⟨Try.t20, by kernel_rfl, rfl, rfl, rfl⟩, fun h => (by cases h)⟩
theorem ty21 : TyOk Try.prog 21 ⟨Try.t21.desc, Try.t21.size, Try.t21.zero, Try.t21.bytes, false⟩ := ⟨by kernel_rfl, ⟨Try.t21, by kernel_rfl, rfl, rfl, rfl⟩, fun h => (by cases h)⟩
theorem ty22 : TyOk Try.prog 22 ⟨Try.t22.desc, Try.t22.size, Try.t22.zero, Try.t22.bytes, false⟩ := ⟨by kernel_rfl, ⟨Try.t22, by kernel_rfl, rfl, rfl, rfl⟩, fun h => (by cases h)⟩
theorem ty23 : TyOk Try.prog 23 ⟨Try.t23.desc, Try.t23.size, Try.t23.zero, Try.t23.bytes, false⟩ := ⟨by kernel_rfl, ⟨Try.t23, by kernel_rfl, rfl, rfl, rfl⟩, fun h => (by cases h)⟩
theorem ty24 : TyOk Try.prog 24 ⟨Try.t24.desc, Try.t24.size, Try.t24.zero, Try.t24.bytes, false⟩ := ⟨by kernel_rfl, ⟨Try.t24, by kernel_rfl, rfl, rfl, rfl⟩, fun h => (by cases h)⟩
theorem ty25 : TyOk Try.prog 25 ⟨Try.t25.desc, Try.t25.size, Try.t25.zero, Try.t25.bytes, false⟩ := ⟨by kernel_rfl, ⟨Try.t25, by kernel_rfl, rfl, rfl, rfl⟩, fun h => (by cases h)⟩
theorem ty26 : TyOk Try.prog 26 ⟨Try.t26.desc, Try.t26.size, Try.t26.zero, Try.t26.bytes, false⟩ := ⟨by kernel_rfl, ⟨Try.t26, by kernel_rfl, rfl, rfl, rfl⟩, fun h => (by cases h)⟩
theorem ty27 : TyOk Try.prog 27 ⟨Try.t27.desc, Try.t27.size, Try.t27.zero, Try.t27.bytes, false⟩ := ⟨by kernel_rfl, ⟨Try.t27, by kernel_rfl, rfl, rfl, rfl⟩, fun h => (by cases h)⟩
theorem ty28 : TyOk Try.prog 28 ⟨Try.t28.desc, Try.t28.size, Try.t28.zero, Try.t28.bytes, false⟩ := ⟨by kernel_rfl, ⟨Try.t28, by kernel_rfl, rfl, rfl, rfl⟩, fun h => (by cases h)⟩
theorem ty29 : TyOk Try.prog 29 ⟨Try.t29.desc, Try.t29.size, Try.t29.zero, Try.t29.bytes, false⟩ := ⟨by kernel_rfl, ⟨Try.t29, by kernel_rfl, rfl, rfl, rfl⟩, fun h => (by cases h)⟩
theorem ty30 : TyOk Try.prog 30 ⟨Try.t30.desc, Try.t30.size, Try.t30.zero, Try.t30.bytes, false⟩ := ⟨by kernel_rfl, ⟨Try.t30, by kernel_rfl, rfl, rfl, rfl⟩, fun h => (by cases h)⟩
theorem ty31 : TyOk Try.prog 31 ⟨Try.t31.desc, Try.t31.size, Try.t31.zero, Try.t31.bytes, false⟩ := ⟨by kernel_rfl, ⟨Try.t31, by kernel_rfl, rfl, rfl, rfl⟩, fun h => (by cases h)⟩
theorem ty32 : TyOk Try.prog 32 ⟨Try.t3.desc, Try.t32.size, Try.t32.zero, Try.t32.bytes, false⟩ := ⟨by kernel_rfl, ⟨Try.t32, by kernel_rfl, rfl, rfl, rfl⟩, fun h => (by cases h)⟩
theorem ty33 : TyOk Try.prog 33 ⟨Try.t33.desc, Try.t33.size, Try.t33.zero, Try.t33.bytes, false⟩ := ⟨by kernel_rfl, ⟨Try.t33, by kernel_rfl, rfl, rfl, rfl⟩, fun h => (by cases h)⟩
theorem ty34 : TyOk Try.prog 34 ⟨Try.t34.desc, Try.t34.size, Try.t34.zero, Try.t34.bytes, false⟩ := ⟨by kernel_rfl, ⟨Try.t34, by kernel_rfl, rfl, rfl, rfl⟩, fun h => (by cases h)⟩
theorem ty35 : TyOk Try.prog 35 ⟨Try.t35.desc, Try.t35.size, Try.t35.zero, Try.t35.bytes, false⟩ := ⟨by kernel_rfl, ⟨Try.t35, by kernel_rfl, rfl, rfl, rfl⟩, fun h => (by cases h)⟩
theorem ty36 : TyOk Try.prog 36 ⟨Try.t35.desc, Try.t36.size, Try.t36.zero, Try.t36.bytes, true⟩ := ⟨by kernel_rfl, ⟨Try.t36, by kernel_rfl, rfl, rfl, rfl⟩, fun _ => ⟨by kernel_rfl, by kernel_rfl⟩⟩
theorem ty37 : TyOk Try.prog 37 ⟨Try.t37.desc, Try.t37.size, Try.t37.zero, Try.t37.bytes, false⟩ := ⟨by kernel_rfl, ⟨Try.t37, by kernel_rfl, rfl, rfl, rfl⟩, fun h => (by cases h)⟩
theorem ty38 : TyOk Try.prog 38 ⟨Try.t38.desc, Try.t38.size, Try.t38.zero, Try.t38.bytes, false⟩ := ⟨by kernel_rfl, ⟨Try.t38, by kernel_rfl, rfl, rfl, rfl⟩, fun h => (by cases h)⟩
theorem ty39 : TyOk Try.prog 39 ⟨Try.t39.desc, Try.t39.size, Try.t39.zero, Try.t39.bytes, false⟩ := ⟨by kernel_rfl, ⟨Try.t39, by kernel_rfl, rfl, rfl, rfl⟩, fun h => (by cases h)⟩
theorem ty40 : TyOk Try.prog 40 ⟨Try.t40.desc, Try.t40.size, Try.t40.zero, Try.t40.bytes, false⟩ := ⟨by kernel_rfl, ⟨Try.t40, by kernel_rfl, rfl, rfl, rfl⟩, fun h => (by cases h)⟩
theorem ty41 : TyOk Try.prog 41 ⟨Try.t41.desc, Try.t41.size, Try.t41.zero, Try.t41.bytes, false⟩ := ⟨by kernel_rfl, ⟨Try.t41, by kernel_rfl, rfl, rfl, rfl⟩, fun h => (by cases h)⟩
theorem ty42 : TyOk Try.prog 42 ⟨Try.t42.desc, Try.t42.size, Try.t42.zero, Try.t42.bytes, false⟩ := ⟨by kernel_rfl, ⟨Try.t42, by kernel_rfl, rfl, rfl, rfl⟩, fun h => (by cases h)⟩
theorem ty43 : TyOk Try.prog 43 ⟨Try.t43.desc, Try.t43.size, Try.t43.zero, Try.t43.bytes, false⟩ := ⟨by kernel_rfl, ⟨Try.t43, by kernel_rfl, rfl, rfl, rfl⟩, fun h => (by cases h)⟩
theorem ty44 : TyOk Try.prog 44 ⟨Try.t44.desc, Try.t44.size, Try.t44.zero, Try.t44.bytes, false⟩ := ⟨by kernel_rfl, ⟨Try.t44, by kernel_rfl, rfl, rfl, rfl⟩, fun h => (by cases h)⟩
theorem ty45 : TyOk Try.prog 45 ⟨Try.t45.desc, Try.t45.size, Try.t45.zero, Try.t45.bytes, false⟩ := ⟨by kernel_rfl, ⟨Try.t45, by kernel_rfl, rfl, rfl, rfl⟩, fun h => (by cases h)⟩
theorem ty46 : TyOk Try.prog 46 ⟨Try.t46.desc, Try.t46.size, Try.t46.zero, Try.t46.bytes, false⟩ := ⟨by kernel_rfl, ⟨Try.t46, by kernel_rfl, rfl, rfl, rfl⟩, fun h => (by cases h)⟩
theorem ty47 : TyOk Try.prog 47 ⟨Try.t47.desc, Try.t47.size, Try.t47.zero, Try.t47.bytes, false⟩ := ⟨by kernel_rfl, ⟨Try.t47, by kernel_rfl, rfl, rfl, rfl⟩, fun h => (by cases h)⟩
theorem ty48 : TyOk Try.prog 48 ⟨Try.t48.desc, Try.t48.size, Try.t48.zero, Try.t48.bytes, false⟩ := ⟨by kernel_rfl, ⟨Try.t48, by kernel_rfl, rfl, rfl, rfl⟩, fun h => (by cases h)⟩
theorem ty49 : TyOk Try.prog 49 ⟨Try.t49.desc, Try.t49.size, Try.t49.zero, Try.t49.bytes, false⟩ := ⟨by kernel_rfl, ⟨Try.t49, by kernel_rfl, rfl, rfl, rfl⟩, fun h => (by cases h)⟩
theorem ty50 : TyOk Try.prog 50 ⟨Try.t50.desc, Try.t50.size, Try.t50.zero, Try.t50.bytes, false⟩ := ⟨by kernel_rfl, ⟨Try.t50, by kernel_rfl, rfl, rfl, rfl⟩, fun h => (by cases h)⟩
theorem ty51 : TyOk Try.prog 51 ⟨Try.t51.desc, Try.t51.size, Try.t51.zero, Try.t51.bytes, false⟩ := ⟨by kernel_rfl, ⟨Try.t51, by kernel_rfl, rfl, rfl, rfl⟩, fun h => (by cases h)⟩
theorem ty52 : TyOk Try.prog 52 ⟨Try.t52.desc, Try.t52.size, Try.t52.zero, Try.t52.bytes, false⟩ := ⟨by kernel_rfl, ⟨Try.t52, by kernel_rfl, rfl, rfl, rfl⟩, fun h => (by cases h)⟩
theorem ty53 : TyOk Try.prog 53 ⟨Try.t53.desc, Try.t53.size, Try.t53.zero, Try.t53.bytes, false⟩ := ⟨by kernel_rfl, ⟨Try.t53, by kernel_rfl, rfl, rfl, rfl⟩, fun h => (by cases h)⟩
theorem ty54 : TyOk Try.prog 54 ⟨Try.t54.desc, Try.t54.size, Try.t54.zero, Try.t54.bytes, false⟩ := ⟨by kernel_rfl, ⟨Try.t54, by kernel_rfl, rfl, rfl, rfl⟩, fun h => (by cases h)⟩
theorem ty55 : TyOk Try.prog 55 ⟨Try.t55.desc, Try.t55.size, Try.t55.zero, Try.t55.bytes, false⟩ := ⟨by kernel_rfl, ⟨Try.t55, by kernel_rfl, rfl, rfl, rfl⟩, fun h => (by cases h)⟩
theorem ty56 : TyOk Try.prog 56 ⟨Try.t55.desc, Try.t56.size, Try.t56.zero, Try.t56.bytes, false⟩ := ⟨by kernel_rfl, ⟨Try.t56, by kernel_rfl, rfl, rfl, rfl⟩, fun h => (by cases h)⟩
theorem ty57 : TyOk Try.prog 57 ⟨Try.t57.desc, Try.t57.size, Try.t57.zero, Try.t57.bytes, false⟩ := ⟨by kernel_rfl, ⟨Try.t57, by kernel_rfl, rfl, rfl, rfl⟩, fun h => (by cases h)⟩
theorem ty58 : TyOk Try.prog 58 ⟨Try.t58.desc, Try.t58.size, Try.t58.zero, Try.t58.bytes, false⟩ := ⟨by kernel_rfl, ⟨Try.t58, by kernel_rfl, rfl, rfl, rfl⟩, fun h => (by cases h)⟩
theorem ty59 : TyOk Try.prog 59 ⟨Try.t58.desc, Try.t59.size, Try.t59.zero, Try.t59.bytes, false⟩ := ⟨by kernel_rfl, ⟨Try.t59, by kernel_rfl, rfl, rfl, rfl⟩, fun h => (by cases h)⟩
theorem ty60 : TyOk Try.prog 60 ⟨Try.t60.desc, Try.t60.size, Try.t60.zero, Try.t60.bytes, false⟩ := ⟨by kernel_rfl, ⟨Try.t60, by kernel_rfl, rfl, rfl, rfl⟩, fun h => (by cases h)⟩
theorem ty61 : TyOk Try.prog 61 ⟨Try.t61.desc, Try.t61.size, Try.t61.zero, Try.t61.bytes, false⟩ := ⟨by kernel_rfl, ⟨Try.t61, by kernel_rfl, rfl, rfl, rfl⟩, fun h => (by cases h)⟩
theorem ty62 : TyOk Try.prog 62 ⟨Try.t5.desc, Try.t62.size, Try.t62.zero, Try.t62.bytes, false⟩ := ⟨by kernel_rfl, ⟨Try.t62, by kernel_rfl, rfl, rfl, rfl⟩, fun h => (by cases h)⟩
theorem ty63 : TyOk Try.prog 63 ⟨Try.t5.desc, Try.t63.size, Try.t63.zero, Try.t63.bytes, false⟩ := ⟨by kernel_rfl, ⟨Try.t63, by kernel_rfl, rfl, rfl, rfl⟩, fun h => (by cases h)⟩
theorem ty64 : TyOk Try.prog 64 ⟨Try.t64.desc, Try.t64.size, Try.t64.zero, Try.t64.bytes, false⟩ := ⟨by kernel_rfl, ⟨Try.t64, by kernel_rfl, rfl, rfl, rfl⟩, fun h => (by cases h)⟩
theorem ty65 : TyOk Try.prog 65 ⟨Try.t65.desc, Try.t65.size, Try.t65.zero, Try.t65.bytes, false⟩ := ⟨by kernel_rfl, ⟨Try.t65, by kernel_rfl, rfl, rfl, rfl⟩, fun h => (by cases h)⟩
theorem ty66 : TyOk Try.prog 66 ⟨Try.t21.desc, Try.t66.size, Try.t66.zero, Try.t66.bytes, false⟩ := ⟨by kernel_rfl, ⟨Try.t66, by kernel_rfl, rfl, rfl, rfl⟩, fun h => (by cases h)⟩
theorem ty67 : TyOk Try.prog 67 ⟨Try.t21.desc, Try.t67.size, Try.t67.zero, Try.t67.bytes, false⟩ := ⟨by kernel_rfl, ⟨Try.t67, by kernel_rfl, rfl, rfl, rfl⟩, fun h => (by cases h)⟩
theorem ty68 : TyOk Try.prog 68 ⟨Try.t68.desc, Try.t68.size, Try.t68.zero, Try.t68.bytes, false⟩ := ⟨by kernel_rfl, ⟨Try.t68, by kernel_rfl, rfl, rfl, rfl⟩, fun h => (by cases h)⟩
theorem ty69 : TyOk Try.prog 69 ⟨Try.t68.desc, Try.t69.size, Try.t69.zero, Try.t69.bytes, false⟩ := ⟨by kernel_rfl, ⟨Try.t69, by kernel_rfl, rfl, rfl, rfl⟩, fun h => (by cases h)⟩
theorem ty70 : TyOk Try.prog 70 ⟨Try.t70.desc, Try.t70.size, Try.t70.zero, Try.t70.bytes, false⟩ := ⟨by kernel_rfl, ⟨Try.t70, by kernel_rfl, rfl, rfl, rfl⟩, fun h => (by cases h)⟩
theorem fn3 : FnOk Try.prog 3 Try.f3 := ⟨Try.func3, rfl, by kernel_rfl⟩
theorem fn4 : FnOk Try.prog 4 Try.f4 := ⟨Try.func4, rfl, by kernel_rfl⟩
theorem fn5 : FnOk Try.prog 5 Try.f5 := ⟨Try.func5, rfl, by kernel_rfl⟩
theorem fn6 : FnOk Try.prog 6 Try.f6 := ⟨Try.func6, rfl, by kernel_rfl⟩
theorem fn7 : FnOk Try.prog 7 Try.f7 := ⟨Try.func7, rfl, by kernel_rfl⟩
theorem fn8 : FnOk Try.prog 8 Try.f8 := ⟨Try.func8, rfl, by kernel_rfl⟩
theorem fn9 : FnOk Try.prog 9 Try.f9 := ⟨Try.func9, rfl, by kernel_rfl⟩
theorem fn10 : FnOk Try.prog 10 Try.f10 := ⟨Try.func10, rfl, by kernel_rfl⟩
theorem fn11 : FnOk Try.prog 11 Try.f11 := ⟨Try.func11, rfl, by kernel_rfl⟩
theorem fn12 : FnOk Try.prog 12 Try.f12 := ⟨Try.func12, rfl, by kernel_rfl⟩
theorem fn13 : FnOk Try.prog 13 Try.f13 := ⟨Try.func13, rfl, by kernel_rfl⟩
theorem fn14 : FnOk Try.prog 14 Try.f14 := ⟨Try.func14, rfl, by kernel_rfl⟩
theorem fn15 : FnOk Try.prog 15 Try.f15 := ⟨Try.func15, rfl, by kernel_rfl⟩
theorem fn16 : FnOk Try.prog 16 Try.f16 := ⟨Try.func16, rfl, by kernel_rfl⟩
theorem fn17 : FnOk Try.prog 17 Try.f17 := ⟨Try.func17, rfl, by kernel_rfl⟩
theorem fn18 : FnOk Try.prog 18 Try.f18 := ⟨Try.func18, rfl, by kernel_rfl⟩
theorem fn19 : FnOk Try.prog 19 Try.f19 := ⟨Try.func19, rfl, by kernel_rfl⟩
theorem fn20 : FnOk Try.prog 20 Try.f20 := ⟨Try.func20, rfl, by kernel_rfl⟩
theorem fn21 : FnOk Try.prog 21 Try.f21 := ⟨Try.func21, rfl, by kernel_rfl⟩
theorem fn22 : FnOk Try.prog 22 Try.f22 := ⟨Try.func22, rfl, by kernel_rfl⟩
theorem fn23 : FnOk Try.prog 23 Try.f23 := ⟨Try.func23, rfl, by kernel_rfl⟩
theorem fn24 : FnOk Try.prog 24 Try.f24 := ⟨Try.func24, rfl, by kernel_rfl⟩
theorem fn25 : FnOk Try.prog 25 Try.f25 := ⟨Try.func25, rfl, by kernel_rfl⟩
theorem fn26 : FnOk Try.prog 26 Try.f26 := ⟨Try.func26, rfl, by kernel_rfl⟩
theorem fn27 : FnOk Try.prog 27 Try.f27 := ⟨Try.func27, rfl, by kernel_rfl⟩
theorem fn28 : FnOk Try.prog 28 Try.f28 := ⟨Try.func28, rfl, by kernel_rfl⟩
theorem fn29 : FnOk Try.prog 29 Try.f29 := ⟨Try.func29, rfl, by kernel_rfl⟩
theorem fn30 : FnOk Try.prog 30 Try.f30 := ⟨Try.func30, rfl, by kernel_rfl⟩
theorem fn31 : FnOk Try.prog 31 Try.f31 := ⟨Try.func31, rfl, by kernel_rfl⟩
theorem fn32 : FnOk Try.prog 32 Try.f32 := ⟨Try.func32, rfl, by kernel_rfl⟩
theorem fn33 : FnOk Try.prog 33 Try.f33 := ⟨Try.func33, rfl, by kernel_rfl⟩
theorem fn34 : FnOk Try.prog 34 Try.f34 := ⟨Try.func34, rfl, by kernel_rfl⟩
theorem fn35 : FnOk Try.prog 35 Try.f35 := ⟨Try.func35, rfl, by kernel_rfl⟩
theorem fn36 : FnOk Try.prog 36 Try.f36 := ⟨Try.func36, rfl, by kernel_rfl⟩
theorem fn37 : FnOk Try.prog 37 Try.f37 := ⟨Try.func37, rfl, by kernel_rfl⟩
theorem fn38 : FnOk Try.prog 38 Try.f38 := ⟨Try.func38, rfl, by kernel_rfl⟩
theorem fn39 : FnOk Try.prog 39 Try.f39 := ⟨Try.func39, rfl, by kernel_rfl⟩
theorem fn40 : FnOk Try.prog 40 Try.f40 := ⟨Try.func40, rfl, by kernel_rfl⟩
theorem fn41 : FnOk Try.prog 41 Try.f41 := ⟨Try.func41, rfl, by kernel_rfl⟩
theorem fn42 : FnOk Try.prog 42 Try.f42 := ⟨Try.func42, rfl, by kernel_rfl⟩
theorem tysOk : Each (TyOk Try.prog) tys := ⟨ty0, ty1, ty2, ty3, ty4, ty5, ty6, ty7, ty8, ty9, ty10, ty11, ty12, ty13, ty14, ty15, ty16, ty17, ty18, ty19, ty20, ty21, ty22, ty23, ty24, ty25, ty26, ty27, ty28, ty29, ty30, ty31, ty32, ty33, ty34, ty35, ty36, ty37, ty38, ty39, ty40, ty41, ty42, ty43, ty44, ty45, ty46, ty47, ty48, ty49, ty50, ty51, ty52, ty53, ty54, ty55, ty56, ty57, ty58, ty59, ty60, ty61, ty62, ty63, ty64, ty65, ty66, ty67, ty68, ty69, ty70, trivial⟩
theorem fnsOk : Each (FnOk Try.prog) fns := ⟨fn3, fn4, fn5, fn6, fn7, fn8, fn9, fn10, fn11, fn12, fn13, fn14, fn15, fn16, fn17, fn18, fn19, fn20, fn21, fn22, fn23, fn24, fn25, fn26, fn27, fn28, fn29, fn30, fn31, fn32, fn33, fn34, fn35, fn36, fn37, fn38, fn39, fn40, fn41, fn42, trivial⟩
noncomputable def env : Env := { ty := Tr.ofList tys, fn := Tr.ofList fns }
theorem envOk : env.Ok Try.prog := Env.ok_of tysOk fnsOk (by decide +kernel) (by decide +kernel) (by kernel_rfl)
end Go.Proofs.Ytofimkcfenemlaa
