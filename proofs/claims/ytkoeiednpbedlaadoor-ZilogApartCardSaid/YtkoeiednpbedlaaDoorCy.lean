/- The tables of types and functions of this seat, for the evaluator. By program (ctx.py). -/
import Derived.Test.YtkoeiednpbedlaaDoorProg
import Derived.Test.YtkoeiednpbedlaaDoorLyV
namespace Go.Proofs.YtkoeiednpbedlaaDoor
open Go.Ly
noncomputable def tys : List (Nat × TI) := [
  (0, ⟨Tryd.t0.desc, Tryd.t0.size, Tryd.t0.zero, Tryd.t0.bytes, false⟩),
  (1, ⟨Tryd.t1.desc, Tryd.t1.size, Tryd.t1.zero, Tryd.t1.bytes, false⟩),
  (2, ⟨Tryd.t2.desc, Tryd.t2.size, Tryd.t2.zero, Tryd.t2.bytes, false⟩),
  (3, ⟨Tryd.t3.desc, Tryd.t3.size, Tryd.t3.zero, Tryd.t3.bytes, false⟩),
  (4, ⟨Tryd.t4.desc, Tryd.t4.size, Tryd.t4.zero, Tryd.t4.bytes, false⟩),
  (5, ⟨Tryd.t5.desc, Tryd.t5.size, Tryd.t5.zero, Tryd.t5.bytes, false⟩),
  (6, ⟨Tryd.t5.desc, Tryd.t6.size, Tryd.t6.zero, Tryd.t6.bytes, false⟩),
  (7, ⟨Tryd.t7.desc, Tryd.t7.size, Tryd.t7.zero, Tryd.t7.bytes, false⟩),
  (8, ⟨Tryd.t7.desc, Tryd.t8.size, Tryd.t8.zero, Tryd.t8.bytes, false⟩),
  (9, ⟨Tryd.t9.desc, Tryd.t9.size, Tryd.t9.zero, Tryd.t9.bytes, false⟩),
  (10, ⟨Tryd.t9.desc, Tryd.t10.size, Tryd.t10.zero, Tryd.t10.bytes, false⟩),
  (11, ⟨Tryd.t9.desc, Tryd.t11.size, Tryd.t11.zero, Tryd.t11.bytes, false⟩),
  (12, ⟨Tryd.t12.desc, Tryd.t12.size, Tryd.t12.zero, Tryd.t12.bytes, false⟩),
  (13, ⟨Tryd.t13.desc, Tryd.t13.size, Tryd.t13.zero, Tryd.t13.bytes, false⟩),
  (14, ⟨Tryd.t13.desc, Tryd.t14.size, Tryd.t14.zero, Tryd.t14.bytes, false⟩),
  (15, ⟨Tryd.t15.desc, Tryd.t15.size, Tryd.t15.zero, Tryd.t15.bytes, false⟩),
  (16, ⟨Tryd.t16.desc, Tryd.t16.size, Tryd.t16.zero, Tryd.t16.bytes, false⟩),
  (17, ⟨Tryd.t17.desc, Tryd.t17.size, Tryd.t17.zero, Tryd.t17.bytes, false⟩),
  (18, ⟨Tryd.t18.desc, Tryd.t18.size, Tryd.t18.zero, Tryd.t18.bytes, false⟩),
  (19, ⟨Tryd.t18.desc, Tryd.t19.size, Tryd.t19.zero, Tryd.t19.bytes, false⟩),
  (20, ⟨Tryd.t20.desc, Tryd.t20.size, Tryd.t20.zero, Tryd.t20.bytes, false⟩),
  (21, ⟨Tryd.t21.desc, Tryd.t21.size, Tryd.t21.zero, Tryd.t21.bytes, false⟩),
  (22, ⟨Tryd.t22.desc, Tryd.t22.size, Tryd.t22.zero, Tryd.t22.bytes, false⟩),
  (23, ⟨Tryd.t23.desc, Tryd.t23.size, Tryd.t23.zero, Tryd.t23.bytes, false⟩),
  (24, ⟨Tryd.t24.desc, Tryd.t24.size, Tryd.t24.zero, Tryd.t24.bytes, false⟩),
  (25, ⟨Tryd.t25.desc, Tryd.t25.size, Tryd.t25.zero, Tryd.t25.bytes, false⟩),
  (26, ⟨Tryd.t26.desc, Tryd.t26.size, Tryd.t26.zero, Tryd.t26.bytes, false⟩),
  (27, ⟨Tryd.t27.desc, Tryd.t27.size, Tryd.t27.zero, Tryd.t27.bytes, false⟩),
  (28, ⟨Tryd.t3.desc, Tryd.t28.size, Tryd.t28.zero, Tryd.t28.bytes, false⟩),
  (29, ⟨Tryd.t29.desc, Tryd.t29.size, Tryd.t29.zero, Tryd.t29.bytes, false⟩),
  (30, ⟨Tryd.t30.desc, Tryd.t30.size, Tryd.t30.zero, Tryd.t30.bytes, false⟩),
  (31, ⟨Tryd.t31.desc, Tryd.t31.size, Tryd.t31.zero, Tryd.t31.bytes, false⟩),
  (32, ⟨Tryd.t32.desc, Tryd.t32.size, Tryd.t32.zero, Tryd.t32.bytes, false⟩),
  (33, ⟨Tryd.t33.desc, Tryd.t33.size, Tryd.t33.zero, Tryd.t33.bytes, false⟩),
  (34, ⟨Tryd.t34.desc, Tryd.t34.size, Tryd.t34.zero, Tryd.t34.bytes, false⟩),
  (35, ⟨Tryd.t35.desc, Tryd.t35.size, Tryd.t35.zero, Tryd.t35.bytes, false⟩),
  (36, ⟨Tryd.t36.desc, Tryd.t36.size, Tryd.t36.zero, Tryd.t36.bytes, false⟩),
  (37, ⟨Tryd.t37.desc, Tryd.t37.size, Tryd.t37.zero, Tryd.t37.bytes, false⟩),
  (38, ⟨Tryd.t38.desc, Tryd.t38.size, Tryd.t38.zero, Tryd.t38.bytes, false⟩),
  (39, ⟨Tryd.t39.desc, Tryd.t39.size, Tryd.t39.zero, Tryd.t39.bytes, false⟩),
  (40, ⟨Tryd.t40.desc, Tryd.t40.size, Tryd.t40.zero, Tryd.t40.bytes, false⟩),
  (41, ⟨Tryd.t24.desc, Tryd.t41.size, Tryd.t41.zero, Tryd.t41.bytes, false⟩),
  (42, ⟨Tryd.t42.desc, Tryd.t42.size, Tryd.t42.zero, Tryd.t42.bytes, false⟩),
  (43, ⟨Tryd.t42.desc, Tryd.t43.size, Tryd.t43.zero, Tryd.t43.bytes, false⟩),
  (44, ⟨Tryd.t44.desc, Tryd.t44.size, Tryd.t44.zero, Tryd.t44.bytes, false⟩),
  (45, ⟨Tryd.t45.desc, Tryd.t45.size, Tryd.t45.zero, Tryd.t45.bytes, false⟩),
  (46, ⟨Tryd.t46.desc, Tryd.t46.size, Tryd.t46.zero, Tryd.t46.bytes, false⟩),
  (47, ⟨Tryd.t47.desc, Tryd.t47.size, Tryd.t47.zero, Tryd.t47.bytes, false⟩),
  (48, ⟨Tryd.t48.desc, Tryd.t48.size, Tryd.t48.zero, Tryd.t48.bytes, false⟩),
  (49, ⟨Tryd.t49.desc, Tryd.t49.size, Tryd.t49.zero, Tryd.t49.bytes, false⟩),
  (50, ⟨Tryd.t50.desc, Tryd.t50.size, Tryd.t50.zero, Tryd.t50.bytes, false⟩),
  (51, ⟨Tryd.t51.desc, Tryd.t51.size, Tryd.t51.zero, Tryd.t51.bytes, false⟩),
  (52, ⟨Tryd.t52.desc, Tryd.t52.size, Tryd.t52.zero, Tryd.t52.bytes, false⟩),
  (53, ⟨Tryd.t52.desc, Tryd.t53.size, Tryd.t53.zero, Tryd.t53.bytes, false⟩),
  (54, ⟨Tryd.t54.desc, Tryd.t54.size, Tryd.t54.zero, Tryd.t54.bytes, false⟩),
  (55, ⟨Tryd.t55.desc, Tryd.t55.size, Tryd.t55.zero, Tryd.t55.bytes, false⟩),
  (56, ⟨Tryd.t56.desc, Tryd.t56.size, Tryd.t56.zero, Tryd.t56.bytes, false⟩),
  (57, ⟨Tryd.t57.desc, Tryd.t57.size, Tryd.t57.zero, Tryd.t57.bytes, false⟩),
  (58, ⟨Tryd.t58.desc, Tryd.t58.size, Tryd.t58.zero, Tryd.t58.bytes, false⟩),
  (59, ⟨Tryd.t59.desc, Tryd.t59.size, Tryd.t59.zero, Tryd.t59.bytes, false⟩),
  (60, ⟨Tryd.t60.desc, Tryd.t60.size, Tryd.t60.zero, Tryd.t60.bytes, true⟩),
  (61, ⟨Tryd.t61.desc, Tryd.t61.size, Tryd.t61.zero, Tryd.t61.bytes, false⟩),
  (62, ⟨Tryd.t62.desc, Tryd.t62.size, Tryd.t62.zero, Tryd.t62.bytes, false⟩),
  (63, ⟨Tryd.t63.desc, Tryd.t63.size, Tryd.t63.zero, Tryd.t63.bytes, false⟩),
  (64, ⟨Tryd.t64.desc, Tryd.t64.size, Tryd.t64.zero, Tryd.t64.bytes, false⟩),
  (65, ⟨Tryd.t65.desc, Tryd.t65.size, Tryd.t65.zero, Tryd.t65.bytes, false⟩),
  (66, ⟨Tryd.t66.desc, Tryd.t66.size, Tryd.t66.zero, Tryd.t66.bytes, false⟩),
  (67, ⟨Tryd.t67.desc, Tryd.t67.size, Tryd.t67.zero, Tryd.t67.bytes, false⟩),
  (68, ⟨Tryd.t68.desc, Tryd.t68.size, Tryd.t68.zero, Tryd.t68.bytes, false⟩),
  (69, ⟨Tryd.t68.desc, Tryd.t69.size, Tryd.t69.zero, Tryd.t69.bytes, false⟩),
  (70, ⟨Tryd.t70.desc, Tryd.t70.size, Tryd.t70.zero, Tryd.t70.bytes, false⟩),
  (71, ⟨Tryd.t71.desc, Tryd.t71.size, Tryd.t71.zero, Tryd.t71.bytes, false⟩),
  (72, ⟨Tryd.t71.desc, Tryd.t72.size, Tryd.t72.zero, Tryd.t72.bytes, false⟩),
  (73, ⟨Tryd.t73.desc, Tryd.t73.size, Tryd.t73.zero, Tryd.t73.bytes, false⟩),
  (74, ⟨Tryd.t74.desc, Tryd.t74.size, Tryd.t74.zero, Tryd.t74.bytes, false⟩),
  (75, ⟨Tryd.t75.desc, Tryd.t75.size, Tryd.t75.zero, Tryd.t75.bytes, false⟩),
  (76, ⟨Tryd.t76.desc, Tryd.t76.size, Tryd.t76.zero, Tryd.t76.bytes, false⟩),
  (77, ⟨Tryd.t77.desc, Tryd.t77.size, Tryd.t77.zero, Tryd.t77.bytes, false⟩),
  (78, ⟨Tryd.t77.desc, Tryd.t78.size, Tryd.t78.zero, Tryd.t78.bytes, false⟩),
  (79, ⟨Tryd.t79.desc, Tryd.t79.size, Tryd.t79.zero, Tryd.t79.bytes, false⟩),
  (80, ⟨Tryd.t80.desc, Tryd.t80.size, Tryd.t80.zero, Tryd.t80.bytes, false⟩),
  (81, ⟨Tryd.t81.desc, Tryd.t81.size, Tryd.t81.zero, Tryd.t81.bytes, false⟩),
  (82, ⟨Tryd.t82.desc, Tryd.t82.size, Tryd.t82.zero, Tryd.t82.bytes, false⟩),
  (83, ⟨Tryd.t83.desc, Tryd.t83.size, Tryd.t83.zero, Tryd.t83.bytes, false⟩),
  (84, ⟨Tryd.t84.desc, Tryd.t84.size, Tryd.t84.zero, Tryd.t84.bytes, false⟩),
  (85, ⟨Tryd.t85.desc, Tryd.t85.size, Tryd.t85.zero, Tryd.t85.bytes, false⟩),
  (86, ⟨Tryd.t86.desc, Tryd.t86.size, Tryd.t86.zero, Tryd.t86.bytes, false⟩),
  (87, ⟨Tryd.t86.desc, Tryd.t87.size, Tryd.t87.zero, Tryd.t87.bytes, false⟩),
  (88, ⟨Tryd.t88.desc, Tryd.t88.size, Tryd.t88.zero, Tryd.t88.bytes, false⟩),
  (89, ⟨Tryd.t89.desc, Tryd.t89.size, Tryd.t89.zero, Tryd.t89.bytes, false⟩),
  (90, ⟨Tryd.t89.desc, Tryd.t90.size, Tryd.t90.zero, Tryd.t90.bytes, false⟩),
  (91, ⟨Tryd.t91.desc, Tryd.t91.size, Tryd.t91.zero, Tryd.t91.bytes, false⟩),
  (92, ⟨Tryd.t92.desc, Tryd.t92.size, Tryd.t92.zero, Tryd.t92.bytes, false⟩),
  (93, ⟨Tryd.t92.desc, Tryd.t93.size, Tryd.t93.zero, Tryd.t93.bytes, false⟩),
  (94, ⟨Tryd.t94.desc, Tryd.t94.size, Tryd.t94.zero, Tryd.t94.bytes, false⟩),
  (95, ⟨Tryd.t95.desc, Tryd.t95.size, Tryd.t95.zero, Tryd.t95.bytes, false⟩),
  (96, ⟨Tryd.t96.desc, Tryd.t96.size, Tryd.t96.zero, Tryd.t96.bytes, false⟩),
  (97, ⟨Tryd.t97.desc, Tryd.t97.size, Tryd.t97.zero, Tryd.t97.bytes, false⟩),
  (98, ⟨Tryd.t98.desc, Tryd.t98.size, Tryd.t98.zero, Tryd.t98.bytes, false⟩),
  (99, ⟨Tryd.t99.desc, Tryd.t99.size, Tryd.t99.zero, Tryd.t99.bytes, false⟩),
  (100, ⟨Tryd.t100.desc, Tryd.t100.size, Tryd.t100.zero, Tryd.t100.bytes, false⟩),
  (101, ⟨Tryd.t101.desc, Tryd.t101.size, Tryd.t101.zero, Tryd.t101.bytes, false⟩),
  (102, ⟨Tryd.t102.desc, Tryd.t102.size, Tryd.t102.zero, Tryd.t102.bytes, false⟩),
  (103, ⟨Tryd.t103.desc, Tryd.t103.size, Tryd.t103.zero, Tryd.t103.bytes, false⟩),
  (104, ⟨Tryd.t103.desc, Tryd.t104.size, Tryd.t104.zero, Tryd.t104.bytes, false⟩),
  (105, ⟨Tryd.t105.desc, Tryd.t105.size, Tryd.t105.zero, Tryd.t105.bytes, false⟩),
  (106, ⟨Tryd.t106.desc, Tryd.t106.size, Tryd.t106.zero, Tryd.t106.bytes, false⟩),
  (107, ⟨Tryd.t106.desc, Tryd.t107.size, Tryd.t107.zero, Tryd.t107.bytes, false⟩),
  (108, ⟨Tryd.t108.desc, Tryd.t108.size, Tryd.t108.zero, Tryd.t108.bytes, false⟩),
  (109, ⟨Tryd.t109.desc, Tryd.t109.size, Tryd.t109.zero, Tryd.t109.bytes, false⟩),
  (110, ⟨Tryd.t109.desc, Tryd.t110.size, Tryd.t110.zero, Tryd.t110.bytes, false⟩),
  (111, ⟨Tryd.t111.desc, Tryd.t111.size, Tryd.t111.zero, Tryd.t111.bytes, false⟩),
  (112, ⟨Tryd.t5.desc, Tryd.t112.size, Tryd.t112.zero, Tryd.t112.bytes, false⟩),
  (113, ⟨Tryd.t5.desc, Tryd.t113.size, Tryd.t113.zero, Tryd.t113.bytes, false⟩),
  (114, ⟨Tryd.t114.desc, Tryd.t114.size, Tryd.t114.zero, Tryd.t114.bytes, false⟩),
  (115, ⟨Tryd.t21.desc, Tryd.t115.size, Tryd.t115.zero, Tryd.t115.bytes, false⟩),
  (116, ⟨Tryd.t21.desc, Tryd.t116.size, Tryd.t116.zero, Tryd.t116.bytes, false⟩),
  (117, ⟨Tryd.t117.desc, Tryd.t117.size, Tryd.t117.zero, Tryd.t117.bytes, false⟩),
  (118, ⟨Tryd.t117.desc, Tryd.t118.size, Tryd.t118.zero, Tryd.t118.bytes, false⟩)]
noncomputable def fns : List (Nat × Func) := [(3, Tryd.f3), (4, Tryd.f4), (5, Tryd.f5), (6, Tryd.f6), (7, Tryd.f7), (8, Tryd.f8), (9, Tryd.f9), (10, Tryd.f10), (11, Tryd.f11), (12, Tryd.f12), (13, Tryd.f13), (14, Tryd.f14), (15, Tryd.f15), (16, Tryd.f16), (17, Tryd.f17), (18, Tryd.f18), (19, Tryd.f19), (20, Tryd.f20), (21, Tryd.f21), (22, Tryd.f22), (23, Tryd.f23), (24, Tryd.f24), (25, Tryd.f25), (26, Tryd.f26), (27, Tryd.f27), (28, Tryd.f28), (29, Tryd.f29), (30, Tryd.f30), (31, Tryd.f31), (32, Tryd.f32), (33, Tryd.f33), (34, Tryd.f34), (35, Tryd.f35), (36, Tryd.f36), (37, Tryd.f37), (38, Tryd.f38), (39, Tryd.f39), (40, Tryd.f40), (41, Tryd.f41), (42, Tryd.f42), (43, Tryd.f43), (44, Tryd.f44), (45, Tryd.f45), (46, Tryd.f46), (47, Tryd.f47), (48, Tryd.f48), (49, Tryd.f49), (50, Tryd.f50), (51, Tryd.f51), (52, Tryd.f52), (53, Tryd.f53), (54, Tryd.f54), (55, Tryd.f55), (56, Tryd.f56), (57, Tryd.f57), (58, Tryd.f58), (59, Tryd.f59), (60, Tryd.f60), (61, Tryd.f61), (62, Tryd.f62), (63, Tryd.f63), (64, Tryd.f64), (65, Tryd.f65), (66, Tryd.f66), (67, Tryd.f67), (68, Tryd.f68), (69, Tryd.f69), (70, Tryd.f70), (71, Tryd.f71), (72, Tryd.f72), (73, Tryd.f73), (74, Tryd.f74), (75, Tryd.f75), (76, Tryd.f76)]
theorem ty0 : TyOk Tryd.prog 0 ⟨Tryd.t0.desc, Tryd.t0.size, Tryd.t0.zero, Tryd.t0.bytes, false⟩ := ⟨by kernel_rfl, ⟨Tryd.t0, by kernel_rfl, rfl, rfl, rfl⟩, fun h => (by cases h)⟩
theorem ty1 : TyOk Tryd.prog 1 ⟨Tryd.t1.desc, Tryd.t1.size, Tryd.t1.zero, Tryd.t1.bytes, false⟩ := ⟨by kernel_rfl, ⟨Tryd.t1, by kernel_rfl, rfl, rfl, rfl⟩, fun h => (by cases h)⟩
theorem ty2 : TyOk Tryd.prog 2 ⟨Tryd.t2.desc, Tryd.t2.size, Tryd.t2.zero, Tryd.t2.bytes, false⟩ := ⟨by kernel_rfl, ⟨Tryd.t2, by kernel_rfl, rfl, rfl, rfl⟩, fun h => (by cases h)⟩
theorem ty3 : TyOk Tryd.prog 3 ⟨Tryd.t3.desc, Tryd.t3.size, Tryd.t3.zero, Tryd.t3.bytes, false⟩ := ⟨by kernel_rfl, ⟨Tryd.t3, by kernel_rfl, rfl, rfl, rfl⟩, fun h => (by cases h)⟩
theorem ty4 : TyOk Tryd.prog 4 ⟨Tryd.t4.desc, Tryd.t4.size, Tryd.t4.zero, Tryd.t4.bytes, false⟩ := ⟨by kernel_rfl, ⟨Tryd.t4, by kernel_rfl, rfl, rfl, rfl⟩, fun h => (by cases h)⟩
theorem ty5 : TyOk Tryd.prog 5 ⟨Tryd.t5.desc, Tryd.t5.size, Tryd.t5.zero, Tryd.t5.bytes, false⟩ := ⟨by kernel_rfl, ⟨Tryd.t5, by kernel_rfl, rfl, rfl, rfl⟩, fun h => (by cases h)⟩
theorem ty6 : TyOk Tryd.prog 6 ⟨Tryd.t5.desc, Tryd.t6.size, Tryd.t6.zero, Tryd.t6.bytes, false⟩ := ⟨by kernel_rfl, ⟨Tryd.t6, by kernel_rfl, rfl, rfl, rfl⟩, fun h => (by cases h)⟩
theorem ty7 : TyOk Tryd.prog 7 ⟨Tryd.t7.desc, Tryd.t7.size, Tryd.t7.zero, Tryd.t7.bytes, false⟩ := ⟨by kernel_rfl, ⟨Tryd.t7, by kernel_rfl, rfl, rfl, rfl⟩, fun h => (by cases h)⟩
theorem ty8 : TyOk Tryd.prog 8 ⟨Tryd.t7.desc, Tryd.t8.size, Tryd.t8.zero, Tryd.t8.bytes, false⟩ := ⟨by kernel_rfl, ⟨Tryd.t8, by kernel_rfl, rfl, rfl, rfl⟩, fun h => (by cases h)⟩
theorem ty9 : TyOk Tryd.prog 9 ⟨Tryd.t9.desc, Tryd.t9.size, Tryd.t9.zero, Tryd.t9.bytes, false⟩ := ⟨by kernel_rfl, ⟨Tryd.t9, by kernel_rfl, rfl, rfl, rfl⟩, fun h => (by cases h)⟩
theorem ty10 : TyOk Tryd.prog 10 ⟨Tryd.t9.desc, Tryd.t10.size, Tryd.t10.zero, Tryd.t10.bytes, false⟩ := ⟨by kernel_rfl, ⟨Tryd.t10, by kernel_rfl, rfl, rfl, rfl⟩, fun h => (by cases h)⟩
theorem ty11 : TyOk Tryd.prog 11 ⟨Tryd.t9.desc, Tryd.t11.size, Tryd.t11.zero, Tryd.t11.bytes, false⟩ := ⟨by kernel_rfl, ⟨Tryd.t11, by kernel_rfl, rfl, rfl, rfl⟩, fun h => (by cases h)⟩
theorem ty12 : TyOk Tryd.prog 12 ⟨Tryd.t12.desc, Tryd.t12.size, Tryd.t12.zero, Tryd.t12.bytes, false⟩ := ⟨by kernel_rfl, ⟨Tryd.t12, by kernel_rfl, rfl, rfl, rfl⟩, fun h => (by cases h)⟩
theorem ty13 : TyOk Tryd.prog 13 ⟨Tryd.t13.desc, Tryd.t13.size, Tryd.t13.zero, Tryd.t13.bytes, false⟩ := ⟨by kernel_rfl, ⟨Tryd.t13, by kernel_rfl, rfl, rfl, rfl⟩, fun h => (by cases h)⟩
theorem ty14 : TyOk Tryd.prog 14 ⟨Tryd.t13.desc, Tryd.t14.size, Tryd.t14.zero, Tryd.t14.bytes, false⟩ := ⟨by kernel_rfl, ⟨Tryd.t14, by kernel_rfl, rfl, rfl, rfl⟩, fun h => (by cases h)⟩
theorem ty15 : TyOk Tryd.prog 15 ⟨Tryd.t15.desc, Tryd.t15.size, Tryd.t15.zero, Tryd.t15.bytes, false⟩ := ⟨by kernel_rfl, ⟨Tryd.t15, by kernel_rfl, rfl, rfl, rfl⟩, fun h => (by cases h)⟩
theorem ty16 : TyOk Tryd.prog 16 ⟨Tryd.t16.desc, Tryd.t16.size, Tryd.t16.zero, Tryd.t16.bytes, false⟩ := ⟨by kernel_rfl, ⟨Tryd.t16, by kernel_rfl, rfl, rfl, rfl⟩, fun h => (by cases h)⟩
theorem ty17 : TyOk Tryd.prog 17 ⟨Tryd.t17.desc, Tryd.t17.size, Tryd.t17.zero, Tryd.t17.bytes, false⟩ := ⟨by kernel_rfl, ⟨Tryd.t17, by kernel_rfl, rfl, rfl, rfl⟩, fun h => (by cases h)⟩
theorem ty18 : TyOk Tryd.prog 18 ⟨Tryd.t18.desc, Tryd.t18.size, Tryd.t18.zero, Tryd.t18.bytes, false⟩ := ⟨by kernel_rfl, ⟨Tryd.t18, by kernel_rfl, rfl, rfl, rfl⟩, fun h => (by cases h)⟩
theorem ty19 : TyOk Tryd.prog 19 ⟨Tryd.t18.desc, Tryd.t19.size, Tryd.t19.zero, Tryd.t19.bytes, false⟩ := ⟨by kernel_rfl, ⟨Tryd.t19, by kernel_rfl, rfl, rfl, rfl⟩, fun h => (by cases h)⟩
theorem ty20 : TyOk Tryd.prog 20 ⟨Tryd.t20.desc, Tryd.t20.size, Tryd.t20.zero, Tryd.t20.bytes, false⟩ := ⟨by kernel_rfl, ⟨Tryd.t20, by kernel_rfl, rfl, rfl, rfl⟩, fun h => (by cases h)⟩
theorem ty21 : TyOk Tryd.prog 21 ⟨Tryd.t21.desc, Tryd.t21.size, Tryd.t21.zero, Tryd.t21.bytes, false⟩ := ⟨by kernel_rfl, ⟨Tryd.t21, by kernel_rfl, rfl, rfl, rfl⟩, fun h => (by cases h)⟩
theorem ty22 : TyOk Tryd.prog 22 ⟨Tryd.t22.desc, Tryd.t22.size, Tryd.t22.zero, Tryd.t22.bytes, false⟩ := ⟨by kernel_rfl, ⟨Tryd.t22, by kernel_rfl, rfl, rfl, rfl⟩, fun h => (by cases h)⟩
theorem ty23 : TyOk Tryd.prog 23 ⟨Tryd.t23.desc, Tryd.t23.size, Tryd.t23.zero, Tryd.t23.bytes, false⟩ := ⟨by kernel_rfl, ⟨Tryd.t23, by kernel_rfl, rfl, rfl, rfl⟩, fun h => (by cases h)⟩
theorem ty24 : TyOk Tryd.prog 24 ⟨Tryd.t24.desc, Tryd.t24.size, Tryd.t24.zero, Tryd.t24.bytes, false⟩ := ⟨by kernel_rfl, ⟨Tryd.t24, by kernel_rfl, rfl, rfl, rfl⟩, fun h => (by cases h)⟩
theorem ty25 : TyOk Tryd.prog 25 ⟨Tryd.t25.desc, Tryd.t25.size, Tryd.t25.zero, Tryd.t25.bytes, false⟩ := ⟨by kernel_rfl, ⟨Tryd.t25, by kernel_rfl, rfl, rfl, rfl⟩, fun h => (by cases h)⟩
theorem ty26 : TyOk Tryd.prog 26 ⟨Tryd.t26.desc, Tryd.t26.size, Tryd.t26.zero, Tryd.t26.bytes, false⟩ := ⟨by kernel_rfl, ⟨Tryd.t26, by kernel_rfl, rfl, rfl, rfl⟩, fun h => (by cases h)⟩
theorem ty27 : TyOk Tryd.prog 27 ⟨Tryd.t27.desc, Tryd.t27.size, Tryd.t27.zero, Tryd.t27.bytes, false⟩ := ⟨by kernel_rfl, ⟨Tryd.t27, by kernel_rfl, rfl, rfl, rfl⟩, fun h => (by cases h)⟩
theorem ty28 : TyOk Tryd.prog 28 ⟨Tryd.t3.desc, Tryd.t28.size, Tryd.t28.zero, Tryd.t28.bytes, false⟩ := ⟨by kernel_rfl, ⟨Tryd.t28, by kernel_rfl, rfl, rfl, rfl⟩, fun h => (by cases h)⟩
theorem ty29 : TyOk Tryd.prog 29 ⟨Tryd.t29.desc, Tryd.t29.size, Tryd.t29.zero, Tryd.t29.bytes, false⟩ := ⟨by kernel_rfl, ⟨Tryd.t29, by kernel_rfl, rfl, rfl, rfl⟩, fun h => (by cases h)⟩
theorem ty30 : TyOk Tryd.prog 30 ⟨Tryd.t30.desc, Tryd.t30.size, Tryd.t30.zero, Tryd.t30.bytes, false⟩ := ⟨by kernel_rfl, ⟨Tryd.t30, by kernel_rfl, rfl, rfl, rfl⟩, fun h => (by cases h)⟩
theorem ty31 : TyOk Tryd.prog 31 ⟨Tryd.t31.desc, Tryd.t31.size, Tryd.t31.zero, Tryd.t31.bytes, false⟩ := ⟨by kernel_rfl, ⟨Tryd.t31, by kernel_rfl, rfl, rfl, rfl⟩, fun h => (by cases h)⟩
theorem ty32 : TyOk Tryd.prog 32 ⟨Tryd.t32.desc, Tryd.t32.size, Tryd.t32.zero, Tryd.t32.bytes, false⟩ := ⟨by kernel_rfl, ⟨Tryd.t32, by kernel_rfl, rfl, rfl, rfl⟩, fun h => (by cases h)⟩
theorem ty33 : TyOk Tryd.prog 33 ⟨Tryd.t33.desc, Tryd.t33.size, Tryd.t33.zero, Tryd.t33.bytes, false⟩ := ⟨by kernel_rfl, ⟨Tryd.t33, by kernel_rfl, rfl, rfl, rfl⟩, fun h => (by cases h)⟩
theorem ty34 : TyOk Tryd.prog 34 ⟨Tryd.t34.desc, Tryd.t34.size, Tryd.t34.zero, Tryd.t34.bytes, false⟩ := ⟨by kernel_rfl, ⟨Tryd.t34, by kernel_rfl, rfl, rfl, rfl⟩, fun h => (by cases h)⟩
theorem ty35 : TyOk Tryd.prog 35 ⟨Tryd.t35.desc, Tryd.t35.size, Tryd.t35.zero, Tryd.t35.bytes, false⟩ := ⟨by kernel_rfl, ⟨Tryd.t35, by kernel_rfl, rfl, rfl, rfl⟩, fun h => (by cases h)⟩
theorem ty36 : TyOk Tryd.prog 36 ⟨Tryd.t36.desc, Tryd.t36.size, Tryd.t36.zero, Tryd.t36.bytes, false⟩ := ⟨by kernel_rfl, ⟨Tryd.t36, by kernel_rfl, rfl, rfl, rfl⟩, fun h => (by cases h)⟩
theorem ty37 : TyOk Tryd.prog 37 ⟨Tryd.t37.desc, Tryd.t37.size, Tryd.t37.zero, Tryd.t37.bytes, false⟩ := ⟨by kernel_rfl, ⟨Tryd.t37, by kernel_rfl, rfl, rfl, rfl⟩, fun h => (by cases h)⟩
theorem ty38 : TyOk Tryd.prog 38 ⟨Tryd.t38.desc, Tryd.t38.size, Tryd.t38.zero, Tryd.t38.bytes, false⟩ := ⟨by kernel_rfl, ⟨Tryd.t38, by kernel_rfl, rfl, rfl, rfl⟩, fun h => (by cases h)⟩
theorem ty39 : TyOk Tryd.prog 39 ⟨Tryd.t39.desc, Tryd.t39.size, Tryd.t39.zero, Tryd.t39.bytes, false⟩ := ⟨by kernel_rfl, ⟨Tryd.t39, by kernel_rfl, rfl, rfl, rfl⟩, fun h => (by cases h)⟩
theorem ty40 : TyOk Tryd.prog 40 ⟨Tryd.t40.desc, Tryd.t40.size, Tryd.t40.zero, Tryd.t40.bytes, false⟩ := ⟨by kernel_rfl, ⟨Tryd.t40, by kernel_rfl, rfl, rfl, rfl⟩, fun h => (by cases h)⟩
theorem ty41 : TyOk Tryd.prog 41 ⟨Tryd.t24.desc, Tryd.t41.size, Tryd.t41.zero, Tryd.t41.bytes, false⟩ := ⟨by kernel_rfl, ⟨Tryd.t41, by kernel_rfl, rfl, rfl, rfl⟩, fun h => (by cases h)⟩
theorem ty42 : TyOk Tryd.prog 42 ⟨Tryd.t42.desc, Tryd.t42.size, Tryd.t42.zero, Tryd.t42.bytes, false⟩ := ⟨by kernel_rfl, ⟨Tryd.t42, by kernel_rfl, rfl, rfl, rfl⟩, fun h => (by cases h)⟩
theorem ty43 : TyOk Tryd.prog 43 ⟨Tryd.t42.desc, Tryd.t43.size, Tryd.t43.zero, Tryd.t43.bytes, false⟩ := ⟨by kernel_rfl, ⟨Tryd.t43, by kernel_rfl, rfl, rfl, rfl⟩, fun h => (by cases h)⟩
theorem ty44 : TyOk Tryd.prog 44 ⟨Tryd.t44.desc, Tryd.t44.size, Tryd.t44.zero, Tryd.t44.bytes, false⟩ := ⟨by kernel_rfl, ⟨Tryd.t44, by kernel_rfl, rfl, rfl, rfl⟩, fun h => (by cases h)⟩
theorem ty45 : TyOk Tryd.prog 45 ⟨Tryd.t45.desc, Tryd.t45.size, Tryd.t45.zero, Tryd.t45.bytes, false⟩ := ⟨by kernel_rfl, ⟨Tryd.t45, by kernel_rfl, rfl, rfl, rfl⟩, fun h => (by cases h)⟩
theorem ty46 : TyOk Tryd.prog 46 ⟨Tryd.t46.desc, Tryd.t46.size, Tryd.t46.zero, Tryd.t46.bytes, false⟩ := ⟨by kernel_rfl, ⟨Tryd.t46, by kernel_rfl, rfl, rfl, rfl⟩, fun h => (by cases h)⟩
theorem ty47 : TyOk Tryd.prog 47 ⟨Tryd.t47.desc, Tryd.t47.size, Tryd.t47.zero, Tryd.t47.bytes, false⟩ := ⟨by kernel_rfl, ⟨Tryd.t47, by kernel_rfl, rfl, rfl, rfl⟩, fun h => (by cases h)⟩
theorem ty48 : TyOk Tryd.prog 48 ⟨Tryd.t48.desc, Tryd.t48.size, Tryd.t48.zero, Tryd.t48.bytes, false⟩ := ⟨by kernel_rfl, ⟨Tryd.t48, by kernel_rfl, rfl, rfl, rfl⟩, fun h => (by cases h)⟩
theorem ty49 : TyOk Tryd.prog 49 ⟨Tryd.t49.desc, Tryd.t49.size, Tryd.t49.zero, Tryd.t49.bytes, false⟩ := ⟨by kernel_rfl, ⟨Tryd.t49, by kernel_rfl, rfl, rfl, rfl⟩, fun h => (by cases h)⟩
theorem ty50 : TyOk Tryd.prog 50 ⟨Tryd.t50.desc, Tryd.t50.size, Tryd.t50.zero, Tryd.t50.bytes, false⟩ := ⟨by kernel_rfl, ⟨Tryd.t50, by kernel_rfl, rfl, rfl, rfl⟩, fun h => (by cases h)⟩
theorem ty51 : TyOk Tryd.prog 51 ⟨Tryd.t51.desc, Tryd.t51.size, Tryd.t51.zero, Tryd.t51.bytes, false⟩ := ⟨by kernel_rfl, ⟨Tryd.t51, by kernel_rfl, rfl, rfl, rfl⟩, fun h => (by cases h)⟩
theorem ty52 : TyOk Tryd.prog 52 ⟨Tryd.t52.desc, Tryd.t52.size, Tryd.t52.zero, Tryd.t52.bytes, false⟩ := ⟨by kernel_rfl, ⟨Tryd.t52, by kernel_rfl, rfl, rfl, rfl⟩, fun h => (by cases h)⟩
theorem ty53 : TyOk Tryd.prog 53 ⟨Tryd.t52.desc, Tryd.t53.size, Tryd.t53.zero, Tryd.t53.bytes, false⟩ := ⟨by kernel_rfl, ⟨Tryd.t53, by kernel_rfl, rfl, rfl, rfl⟩, fun h => (by cases h)⟩
theorem ty54 : TyOk Tryd.prog 54 ⟨Tryd.t54.desc, Tryd.t54.size, Tryd.t54.zero, Tryd.t54.bytes, false⟩ := ⟨by kernel_rfl, ⟨Tryd.t54, by kernel_rfl, rfl, rfl, rfl⟩, fun h => (by cases h)⟩
theorem ty55 : TyOk Tryd.prog 55 ⟨Tryd.t55.desc, Tryd.t55.size, Tryd.t55.zero, Tryd.t55.bytes, false⟩ := ⟨by kernel_rfl, ⟨Tryd.t55, by kernel_rfl, rfl, rfl, rfl⟩, fun h => (by cases h)⟩
theorem ty56 : TyOk Tryd.prog 56 ⟨Tryd.t56.desc, Tryd.t56.size, Tryd.t56.zero, Tryd.t56.bytes, false⟩ := ⟨by kernel_rfl, ⟨Tryd.t56, by kernel_rfl, rfl, rfl, rfl⟩, fun h => (by cases h)⟩
theorem ty57 : TyOk Tryd.prog 57 ⟨Tryd.t57.desc, Tryd.t57.size, Tryd.t57.zero, Tryd.t57.bytes, false⟩ := ⟨by kernel_rfl, ⟨Tryd.t57, by kernel_rfl, rfl, rfl, rfl⟩, fun h => (by cases h)⟩
theorem ty58 : TyOk Tryd.prog 58 ⟨Tryd.t58.desc, Tryd.t58.size, Tryd.t58.zero, Tryd.t58.bytes, false⟩ := ⟨by kernel_rfl, ⟨Tryd.t58, by kernel_rfl, rfl, rfl, rfl⟩, fun h => (by cases h)⟩
theorem ty59 : TyOk Tryd.prog 59 ⟨Tryd.t59.desc, Tryd.t59.size, Tryd.t59.zero, Tryd.t59.bytes, false⟩ := ⟨by kernel_rfl, ⟨Tryd.t59, by kernel_rfl, rfl, rfl, rfl⟩, fun h => (by cases h)⟩
theorem ty60 : TyOk Tryd.prog 60 ⟨Tryd.t60.desc, Tryd.t60.size, Tryd.t60.zero, Tryd.t60.bytes, true⟩ := ⟨by kernel_rfl, ⟨Tryd.t60, by kernel_rfl, rfl, rfl, rfl⟩, fun _ => ⟨by kernel_rfl, by kernel_rfl⟩⟩
theorem ty61 : TyOk Tryd.prog 61 ⟨Tryd.t61.desc, Tryd.t61.size, Tryd.t61.zero, Tryd.t61.bytes, false⟩ := ⟨by kernel_rfl, ⟨Tryd.t61, by kernel_rfl, rfl, rfl, rfl⟩, fun h => (by cases h)⟩
theorem ty62 : TyOk Tryd.prog 62 ⟨Tryd.t62.desc, Tryd.t62.size, Tryd.t62.zero, Tryd.t62.bytes, false⟩ := ⟨by kernel_rfl, ⟨Tryd.t62, by kernel_rfl, rfl, rfl, rfl⟩, fun h => (by cases h)⟩
theorem ty63 : TyOk Tryd.prog 63 ⟨Tryd.t63.desc, Tryd.t63.size, Tryd.t63.zero, Tryd.t63.bytes, false⟩ := ⟨by kernel_rfl, ⟨Tryd.t63, by kernel_rfl, rfl, rfl, rfl⟩, fun h => (by cases h)⟩
theorem ty64 : TyOk Tryd.prog 64 ⟨Tryd.t64.desc, Tryd.t64.size, Tryd.t64.zero, Tryd.t64.bytes, false⟩ := ⟨by kernel_rfl, ⟨Tryd.t64, by kernel_rfl, rfl, rfl, rfl⟩, fun h => (by cases h)⟩
theorem ty65 : TyOk Tryd.prog 65 ⟨Tryd.t65.desc, Tryd.t65.size, Tryd.t65.zero, Tryd.t65.bytes, false⟩ := ⟨by kernel_rfl, ⟨Tryd.t65, by kernel_rfl, rfl, rfl, rfl⟩, fun h => (by cases h)⟩
theorem ty66 : TyOk Tryd.prog 66 ⟨Tryd.t66.desc, Tryd.t66.size, Tryd.t66.zero, Tryd.t66.bytes, false⟩ := ⟨by kernel_rfl, ⟨Tryd.t66, by kernel_rfl, rfl, rfl, rfl⟩, fun h => (by cases h)⟩
theorem ty67 : TyOk Tryd.prog 67 ⟨Tryd.t67.desc, Tryd.t67.size, Tryd.t67.zero, Tryd.t67.bytes, false⟩ := ⟨by kernel_rfl, ⟨Tryd.t67, by kernel_rfl, rfl, rfl, rfl⟩, fun h => (by cases h)⟩
theorem ty68 : TyOk Tryd.prog 68 ⟨Tryd.t68.desc, Tryd.t68.size, Tryd.t68.zero, Tryd.t68.bytes, false⟩ := ⟨by kernel_rfl, ⟨Tryd.t68, by kernel_rfl, rfl, rfl, rfl⟩, fun h => (by cases h)⟩
theorem ty69 : TyOk Tryd.prog 69 ⟨Tryd.t68.desc, Tryd.t69.size, Tryd.t69.zero, Tryd.t69.bytes, false⟩ := ⟨by kernel_rfl, ⟨Tryd.t69, by kernel_rfl, rfl, rfl, rfl⟩, fun h => (by cases h)⟩
theorem ty70 : TyOk Tryd.prog 70 ⟨Tryd.t70.desc, Tryd.t70.size, Tryd.t70.zero, Tryd.t70.bytes, false⟩ := ⟨by kernel_rfl, ⟨Tryd.t70, by kernel_rfl, rfl, rfl, rfl⟩, fun h => (by cases h)⟩
theorem ty71 : TyOk Tryd.prog 71 ⟨Tryd.t71.desc, Tryd.t71.size, Tryd.t71.zero, Tryd.t71.bytes, false⟩ := ⟨by kernel_rfl, ⟨Tryd.t71, by kernel_rfl, rfl, rfl, rfl⟩, fun h => (by cases h)⟩
theorem ty72 : TyOk Tryd.prog 72 ⟨Tryd.t71.desc, Tryd.t72.size, Tryd.t72.zero, Tryd.t72.bytes, false⟩ := ⟨by kernel_rfl, ⟨Tryd.t72, by kernel_rfl, rfl, rfl, rfl⟩, fun h => (by cases h)⟩
theorem ty73 : TyOk Tryd.prog 73 ⟨Tryd.t73.desc, Tryd.t73.size, Tryd.t73.zero, Tryd.t73.bytes, false⟩ := ⟨by kernel_rfl, ⟨Tryd.t73, by kernel_rfl, rfl, rfl, rfl⟩, fun h => (by cases h)⟩
theorem ty74 : TyOk Tryd.prog 74 ⟨Tryd.t74.desc, Tryd.t74.size, Tryd.t74.zero, Tryd.t74.bytes, false⟩ := ⟨by kernel_rfl, ⟨Tryd.t74, by kernel_rfl, rfl, rfl, rfl⟩, fun h => (by cases h)⟩
theorem ty75 : TyOk Tryd.prog 75 ⟨Tryd.t75.desc, Tryd.t75.size, Tryd.t75.zero, Tryd.t75.bytes, false⟩ := ⟨by kernel_rfl, ⟨Tryd.t75, by kernel_rfl, rfl, rfl, rfl⟩, fun h => (by cases h)⟩
theorem ty76 : TyOk Tryd.prog 76 ⟨Tryd.t76.desc, Tryd.t76.size, Tryd.t76.zero, Tryd.t76.bytes, false⟩ := ⟨by kernel_rfl, ⟨Tryd.t76, by kernel_rfl, rfl, rfl, rfl⟩, fun h => (by cases h)⟩
theorem ty77 : TyOk Tryd.prog 77 ⟨Tryd.t77.desc, Tryd.t77.size, Tryd.t77.zero, Tryd.t77.bytes, false⟩ := ⟨by kernel_rfl, ⟨Tryd.t77, by kernel_rfl, rfl, rfl, rfl⟩, fun h => (by cases h)⟩
theorem ty78 : TyOk Tryd.prog 78 ⟨Tryd.t77.desc, Tryd.t78.size, Tryd.t78.zero, Tryd.t78.bytes, false⟩ := ⟨by kernel_rfl, ⟨Tryd.t78, by kernel_rfl, rfl, rfl, rfl⟩, fun h => (by cases h)⟩
theorem ty79 : TyOk Tryd.prog 79 ⟨Tryd.t79.desc, Tryd.t79.size, Tryd.t79.zero, Tryd.t79.bytes, false⟩ := ⟨by kernel_rfl, ⟨Tryd.t79, by kernel_rfl, rfl, rfl, rfl⟩, fun h => (by cases h)⟩
theorem ty80 : TyOk Tryd.prog 80 ⟨Tryd.t80.desc, Tryd.t80.size, Tryd.t80.zero, Tryd.t80.bytes, false⟩ := ⟨by kernel_rfl, ⟨Tryd.t80, by kernel_rfl, rfl, rfl, rfl⟩, fun h => (by cases h)⟩
theorem ty81 : TyOk Tryd.prog 81 ⟨Tryd.t81.desc, Tryd.t81.size, Tryd.t81.zero, Tryd.t81.bytes, false⟩ := ⟨by kernel_rfl, ⟨Tryd.t81, by kernel_rfl, rfl, rfl, rfl⟩, fun h => (by cases h)⟩
theorem ty82 : TyOk Tryd.prog 82 ⟨Tryd.t82.desc, Tryd.t82.size, Tryd.t82.zero, Tryd.t82.bytes, false⟩ := ⟨by kernel_rfl, ⟨Tryd.t82, by kernel_rfl, rfl, rfl, rfl⟩, fun h => (by cases h)⟩
theorem ty83 : TyOk Tryd.prog 83 ⟨Tryd.t83.desc, Tryd.t83.size, Tryd.t83.zero, Tryd.t83.bytes, false⟩ := ⟨by kernel_rfl, ⟨Tryd.t83, by kernel_rfl, rfl, rfl, rfl⟩, fun h => (by cases h)⟩
theorem ty84 : TyOk Tryd.prog 84 ⟨Tryd.t84.desc, Tryd.t84.size, Tryd.t84.zero, Tryd.t84.bytes, false⟩ := ⟨by kernel_rfl, ⟨Tryd.t84, by kernel_rfl, rfl, rfl, rfl⟩, fun h => (by cases h)⟩
theorem ty85 : TyOk Tryd.prog 85 ⟨Tryd.t85.desc, Tryd.t85.size, Tryd.t85.zero, Tryd.t85.bytes, false⟩ := ⟨by kernel_rfl, ⟨Tryd.t85, by kernel_rfl, rfl, rfl, rfl⟩, fun h => (by cases h)⟩
theorem ty86 : TyOk Tryd.prog 86 ⟨Tryd.t86.desc, Tryd.t86.size, Tryd.t86.zero, Tryd.t86.bytes, false⟩ := ⟨by kernel_rfl, ⟨Tryd.t86, by kernel_rfl, rfl, rfl, rfl⟩, fun h => (by cases h)⟩
theorem ty87 : TyOk Tryd.prog 87 ⟨Tryd.t86.desc, Tryd.t87.size, Tryd.t87.zero, Tryd.t87.bytes, false⟩ := ⟨by kernel_rfl, ⟨Tryd.t87, by kernel_rfl, rfl, rfl, rfl⟩, fun h => (by cases h)⟩
theorem ty88 : TyOk Tryd.prog 88 ⟨Tryd.t88.desc, Tryd.t88.size, Tryd.t88.zero, Tryd.t88.bytes, false⟩ := ⟨by kernel_rfl, ⟨Tryd.t88, by kernel_rfl, rfl, rfl, rfl⟩, fun h => (by cases h)⟩
theorem ty89 : TyOk Tryd.prog 89 ⟨Tryd.t89.desc, Tryd.t89.size, Tryd.t89.zero, Tryd.t89.bytes, false⟩ := ⟨by kernel_rfl, ⟨Tryd.t89, by kernel_rfl, rfl, rfl, rfl⟩, fun h => (by cases h)⟩
theorem ty90 : TyOk Tryd.prog 90 ⟨Tryd.t89.desc, Tryd.t90.size, Tryd.t90.zero, Tryd.t90.bytes, false⟩ := ⟨by kernel_rfl, ⟨Tryd.t90, by kernel_rfl, rfl, rfl, rfl⟩, fun h => (by cases h)⟩
theorem ty91 : TyOk Tryd.prog 91 ⟨Tryd.t91.desc, Tryd.t91.size, Tryd.t91.zero, Tryd.t91.bytes, false⟩ := ⟨by kernel_rfl, ⟨Tryd.t91, by kernel_rfl, rfl, rfl, rfl⟩, fun h => (by cases h)⟩
theorem ty92 : TyOk Tryd.prog 92 ⟨Tryd.t92.desc, Tryd.t92.size, Tryd.t92.zero, Tryd.t92.bytes, false⟩ := ⟨by kernel_rfl, ⟨Tryd.t92, by kernel_rfl, rfl, rfl, rfl⟩, fun h => (by cases h)⟩
theorem ty93 : TyOk Tryd.prog 93 ⟨Tryd.t92.desc, Tryd.t93.size, Tryd.t93.zero, Tryd.t93.bytes, false⟩ := ⟨by kernel_rfl, ⟨Tryd.t93, by kernel_rfl, rfl, rfl, rfl⟩, fun h => (by cases h)⟩
theorem ty94 : TyOk Tryd.prog 94 ⟨Tryd.t94.desc, Tryd.t94.size, Tryd.t94.zero, Tryd.t94.bytes, false⟩ := ⟨by kernel_rfl, ⟨Tryd.t94, by kernel_rfl, rfl, rfl, rfl⟩, fun h => (by cases h)⟩
theorem ty95 : TyOk Tryd.prog 95 ⟨Tryd.t95.desc, Tryd.t95.size, Tryd.t95.zero, Tryd.t95.bytes, false⟩ := ⟨by kernel_rfl, ⟨Tryd.t95, by kernel_rfl, rfl, rfl, rfl⟩, fun h => (by cases h)⟩
theorem ty96 : TyOk Tryd.prog 96 ⟨Tryd.t96.desc, Tryd.t96.size, Tryd.t96.zero, Tryd.t96.bytes, false⟩ := ⟨by kernel_rfl, ⟨Tryd.t96, by kernel_rfl, rfl, rfl, rfl⟩, fun h => (by cases h)⟩
theorem ty97 : TyOk Tryd.prog 97 ⟨Tryd.t97.desc, Tryd.t97.size, Tryd.t97.zero, Tryd.t97.bytes, false⟩ := ⟨by kernel_rfl, ⟨Tryd.t97, by kernel_rfl, rfl, rfl, rfl⟩, fun h => (by cases h)⟩
theorem ty98 : TyOk Tryd.prog 98 ⟨Tryd.t98.desc, Tryd.t98.size, Tryd.t98.zero, Tryd.t98.bytes, false⟩ := ⟨by kernel_rfl, ⟨Tryd.t98, by kernel_rfl, rfl, rfl, rfl⟩, fun h => (by cases h)⟩
theorem ty99 : TyOk Tryd.prog 99 ⟨Tryd.t99.desc, Tryd.t99.size, Tryd.t99.zero, Tryd.t99.bytes, false⟩ := ⟨by kernel_rfl, ⟨Tryd.t99, by kernel_rfl, rfl, rfl, rfl⟩, fun h => (by cases h)⟩
theorem ty100 : TyOk Tryd.prog 100 ⟨Tryd.t100.desc, Tryd.t100.size, Tryd.t100.zero, Tryd.t100.bytes, false⟩ := ⟨by kernel_rfl, ⟨Tryd.t100, by kernel_rfl, rfl, rfl, rfl⟩, fun h => (by cases h)⟩
theorem ty101 : TyOk Tryd.prog 101 ⟨Tryd.t101.desc, Tryd.t101.size, Tryd.t101.zero, Tryd.t101.bytes, false⟩ := ⟨by kernel_rfl, ⟨Tryd.t101, by kernel_rfl, rfl, rfl, rfl⟩, fun h => (by cases h)⟩
theorem ty102 : TyOk Tryd.prog 102 ⟨Tryd.t102.desc, Tryd.t102.size, Tryd.t102.zero, Tryd.t102.bytes, false⟩ := ⟨by kernel_rfl, ⟨Tryd.t102, by kernel_rfl, rfl, rfl, rfl⟩, fun h => (by cases h)⟩
theorem ty103 : TyOk Tryd.prog 103 ⟨Tryd.t103.desc, Tryd.t103.size, Tryd.t103.zero, Tryd.t103.bytes, false⟩ := ⟨by kernel_rfl, ⟨Tryd.t103, by kernel_rfl, rfl, rfl, rfl⟩, fun h => (by cases h)⟩
theorem ty104 : TyOk Tryd.prog 104 ⟨Tryd.t103.desc, Tryd.t104.size, Tryd.t104.zero, Tryd.t104.bytes, false⟩ := ⟨by kernel_rfl, ⟨Tryd.t104, by kernel_rfl, rfl, rfl, rfl⟩, fun h => (by cases h)⟩
theorem ty105 : TyOk Tryd.prog 105 ⟨Tryd.t105.desc, Tryd.t105.size, Tryd.t105.zero, Tryd.t105.bytes, false⟩ := ⟨by kernel_rfl, ⟨Tryd.t105, by kernel_rfl, rfl, rfl, rfl⟩, fun h => (by cases h)⟩
theorem ty106 : TyOk Tryd.prog 106 ⟨Tryd.t106.desc, Tryd.t106.size, Tryd.t106.zero, Tryd.t106.bytes, false⟩ := ⟨by kernel_rfl, ⟨Tryd.t106, by kernel_rfl, rfl, rfl, rfl⟩, fun h => (by cases h)⟩
theorem ty107 : TyOk Tryd.prog 107 ⟨Tryd.t106.desc, Tryd.t107.size, Tryd.t107.zero, Tryd.t107.bytes, false⟩ := ⟨by kernel_rfl, ⟨Tryd.t107, by kernel_rfl, rfl, rfl, rfl⟩, fun h => (by cases h)⟩
theorem ty108 : TyOk Tryd.prog 108 ⟨Tryd.t108.desc, Tryd.t108.size, Tryd.t108.zero, Tryd.t108.bytes, false⟩ := ⟨by kernel_rfl, ⟨Tryd.t108, by kernel_rfl, rfl, rfl, rfl⟩, fun h => (by cases h)⟩
theorem ty109 : TyOk Tryd.prog 109 ⟨Tryd.t109.desc, Tryd.t109.size, Tryd.t109.zero, Tryd.t109.bytes, false⟩ := ⟨by kernel_rfl, ⟨Tryd.t109, by kernel_rfl, rfl, rfl, rfl⟩, fun h => (by cases h)⟩
theorem ty110 : TyOk Tryd.prog 110 ⟨Tryd.t109.desc, Tryd.t110.size, Tryd.t110.zero, Tryd.t110.bytes, false⟩ := ⟨by kernel_rfl, ⟨Tryd.t110, by kernel_rfl, rfl, rfl, rfl⟩, fun h => (by cases h)⟩
theorem ty111 : TyOk Tryd.prog 111 ⟨Tryd.t111.desc, Tryd.t111.size, Tryd.t111.zero, Tryd.t111.bytes, false⟩ := ⟨by kernel_rfl, ⟨Tryd.t111, by kernel_rfl, rfl, rfl, rfl⟩, fun h => (by cases h)⟩
theorem ty112 : TyOk Tryd.prog 112 ⟨Tryd.t5.desc, Tryd.t112.size, Tryd.t112.zero, Tryd.t112.bytes, false⟩ := ⟨by kernel_rfl, ⟨Tryd.t112, by kernel_rfl, rfl, rfl, rfl⟩, fun h => (by cases h)⟩
theorem ty113 : TyOk Tryd.prog 113 ⟨Tryd.t5.desc, Tryd.t113.size, Tryd.t113.zero, Tryd.t113.bytes, false⟩ := ⟨by kernel_rfl, ⟨Tryd.t113, by kernel_rfl, rfl, rfl, rfl⟩, fun h => (by cases h)⟩
theorem ty114 : TyOk Tryd.prog 114 ⟨Tryd.t114.desc, Tryd.t114.size, Tryd.t114.zero, Tryd.t114.bytes, false⟩ := ⟨by kernel_rfl, ⟨Tryd.t114, by kernel_rfl, rfl, rfl, rfl⟩, fun h => (by cases h)⟩
theorem ty115 : TyOk Tryd.prog 115 ⟨Tryd.t21.desc, Tryd.t115.size, Tryd.t115.zero, Tryd.t115.bytes, false⟩ := ⟨by kernel_rfl, ⟨Tryd.t115, by kernel_rfl, rfl, rfl, rfl⟩, fun h => (by cases h)⟩
theorem ty116 : TyOk Tryd.prog 116 ⟨Tryd.t21.desc, Tryd.t116.size, Tryd.t116.zero, Tryd.t116.bytes, false⟩ := ⟨by kernel_rfl, ⟨Tryd.t116, by kernel_rfl, rfl, rfl, rfl⟩, fun h => (by cases h)⟩
theorem ty117 : TyOk Tryd.prog 117 ⟨Tryd.t117.desc, Tryd.t117.size, Tryd.t117.zero, Tryd.t117.bytes, false⟩ := ⟨by kernel_rfl, ⟨Tryd.t117, by kernel_rfl, rfl, rfl, rfl⟩, fun h => (by cases h)⟩
theorem ty118 : TyOk Tryd.prog 118 ⟨Tryd.t117.desc, Tryd.t118.size, Tryd.t118.zero, Tryd.t118.bytes, false⟩ := ⟨by kernel_rfl, ⟨Tryd.t118, by kernel_rfl, rfl, rfl, rfl⟩, fun h => (by cases h)⟩
theorem fn3 : FnOk Tryd.prog 3 Tryd.f3 := ⟨Tryd.func3, rfl, by kernel_rfl⟩
theorem fn4 : FnOk Tryd.prog 4 Tryd.f4 := ⟨Tryd.func4, rfl, by kernel_rfl⟩
theorem fn5 : FnOk Tryd.prog 5 Tryd.f5 := ⟨Tryd.func5, rfl, by kernel_rfl⟩
theorem fn6 : FnOk Tryd.prog 6 Tryd.f6 := ⟨Tryd.func6, rfl, by kernel_rfl⟩
theorem fn7 : FnOk Tryd.prog 7 Tryd.f7 := ⟨Tryd.func7, rfl, by kernel_rfl⟩
theorem fn8 : FnOk Tryd.prog 8 Tryd.f8 := ⟨Tryd.func8, rfl, by kernel_rfl⟩
theorem fn9 : FnOk Tryd.prog 9 Tryd.f9 := ⟨Tryd.func9, rfl, by kernel_rfl⟩
theorem fn10 : FnOk Tryd.prog 10 Tryd.f10 := ⟨Tryd.func10, rfl, by kernel_rfl⟩
theorem fn11 : FnOk Tryd.prog 11 Tryd.f11 := ⟨Tryd.func11, rfl, by kernel_rfl⟩
theorem fn12 : FnOk Tryd.prog 12 Tryd.f12 := ⟨Tryd.func12, rfl, by kernel_rfl⟩
theorem fn13 : FnOk Tryd.prog 13 Tryd.f13 := ⟨Tryd.func13, rfl, by kernel_rfl⟩
theorem fn14 : FnOk Tryd.prog 14 Tryd.f14 := ⟨Tryd.func14, rfl, by kernel_rfl⟩
theorem fn15 : FnOk Tryd.prog 15 Tryd.f15 := ⟨Tryd.func15, rfl, by kernel_rfl⟩
theorem fn16 : FnOk Tryd.prog 16 Tryd.f16 := ⟨Tryd.func16, rfl, by kernel_rfl⟩
theorem fn17 : FnOk Tryd.prog 17 Tryd.f17 := ⟨Tryd.func17, rfl, by kernel_rfl⟩
theorem fn18 : FnOk Tryd.prog 18 Tryd.f18 := ⟨Tryd.func18, rfl, by kernel_rfl⟩
theorem fn19 : FnOk Tryd.prog 19 Tryd.f19 := ⟨Tryd.func19, rfl, by kernel_rfl⟩
theorem fn20 : FnOk Tryd.prog 20 Tryd.f20 := ⟨Tryd.func20, rfl, by kernel_rfl⟩
theorem fn21 : FnOk Tryd.prog 21 Tryd.f21 := ⟨Tryd.func21, rfl, by kernel_rfl⟩
theorem fn22 : FnOk Tryd.prog 22 Tryd.f22 := ⟨Tryd.func22, rfl, by kernel_rfl⟩
theorem fn23 : FnOk Tryd.prog 23 Tryd.f23 := ⟨Tryd.func23, rfl, by kernel_rfl⟩
theorem fn24 : FnOk Tryd.prog 24 Tryd.f24 := ⟨Tryd.func24, rfl, by kernel_rfl⟩
theorem fn25 : FnOk Tryd.prog 25 Tryd.f25 := ⟨Tryd.func25, rfl, by kernel_rfl⟩
theorem fn26 : FnOk Tryd.prog 26 Tryd.f26 := ⟨Tryd.func26, rfl, by kernel_rfl⟩
theorem fn27 : FnOk Tryd.prog 27 Tryd.f27 := ⟨Tryd.func27, rfl, by kernel_rfl⟩
theorem fn28 : FnOk Tryd.prog 28 Tryd.f28 := ⟨Tryd.func28, rfl, by kernel_rfl⟩
theorem fn29 : FnOk Tryd.prog 29 Tryd.f29 := ⟨Tryd.func29, rfl, by kernel_rfl⟩
theorem fn30 : FnOk Tryd.prog 30 Tryd.f30 := ⟨Tryd.func30, rfl, by kernel_rfl⟩
theorem fn31 : FnOk Tryd.prog 31 Tryd.f31 := ⟨Tryd.func31, rfl, by kernel_rfl⟩
theorem fn32 : FnOk Tryd.prog 32 Tryd.f32 := ⟨Tryd.func32, rfl, by kernel_rfl⟩
theorem fn33 : FnOk Tryd.prog 33 Tryd.f33 := ⟨Tryd.func33, rfl, by kernel_rfl⟩
theorem fn34 : FnOk Tryd.prog 34 Tryd.f34 := ⟨Tryd.func34, rfl, by kernel_rfl⟩
theorem fn35 : FnOk Tryd.prog 35 Tryd.f35 := ⟨Tryd.func35, rfl, by kernel_rfl⟩
theorem fn36 : FnOk Tryd.prog 36 Tryd.f36 := ⟨Tryd.func36, rfl, by kernel_rfl⟩
theorem fn37 : FnOk Tryd.prog 37 Tryd.f37 := ⟨Tryd.func37, rfl, by kernel_rfl⟩
theorem fn38 : FnOk Tryd.prog 38 Tryd.f38 := ⟨Tryd.func38, rfl, by kernel_rfl⟩
theorem fn39 : FnOk Tryd.prog 39 Tryd.f39 := ⟨Tryd.func39, rfl, by kernel_rfl⟩
theorem fn40 : FnOk Tryd.prog 40 Tryd.f40 := ⟨Tryd.func40, rfl, by kernel_rfl⟩
theorem fn41 : FnOk Tryd.prog 41 Tryd.f41 := ⟨Tryd.func41, rfl, by kernel_rfl⟩
theorem fn42 : FnOk Tryd.prog 42 Tryd.f42 := ⟨Tryd.func42, rfl, by kernel_rfl⟩
theorem fn43 : FnOk Tryd.prog 43 Tryd.f43 := ⟨Tryd.func43, rfl, by kernel_rfl⟩
theorem fn44 : FnOk Tryd.prog 44 Tryd.f44 := ⟨Tryd.func44, rfl, by kernel_rfl⟩
theorem fn45 : FnOk Tryd.prog 45 Tryd.f45 := ⟨Tryd.func45, rfl, by kernel_rfl⟩
theorem fn46 : FnOk Tryd.prog 46 Tryd.f46 := ⟨Tryd.func46, rfl, by kernel_rfl⟩
theorem fn47 : FnOk Tryd.prog 47 Tryd.f47 := ⟨Tryd.func47, rfl, by kernel_rfl⟩
theorem fn48 : FnOk Tryd.prog 48 Tryd.f48 := ⟨Tryd.func48, rfl, by kernel_rfl⟩
theorem fn49 : FnOk Tryd.prog 49 Tryd.f49 := ⟨Tryd.func49, rfl, by kernel_rfl⟩
theorem fn50 : FnOk Tryd.prog 50 Tryd.f50 := ⟨Tryd.func50, rfl, by kernel_rfl⟩
theorem fn51 : FnOk Tryd.prog 51 Tryd.f51 := ⟨Tryd.func51, rfl, by kernel_rfl⟩
theorem fn52 : FnOk Tryd.prog 52 Tryd.f52 := ⟨Tryd.func52, rfl, by kernel_rfl⟩
theorem fn53 : FnOk Tryd.prog 53 Tryd.f53 := ⟨Tryd.func53, rfl, by kernel_rfl⟩
theorem fn54 : FnOk Tryd.prog 54 Tryd.f54 := ⟨Tryd.func54, rfl, by kernel_rfl⟩
theorem fn55 : FnOk Tryd.prog 55 Tryd.f55 := ⟨Tryd.func55, rfl, by kernel_rfl⟩
theorem fn56 : FnOk Tryd.prog 56 Tryd.f56 := ⟨Tryd.func56, rfl, by kernel_rfl⟩
theorem fn57 : FnOk Tryd.prog 57 Tryd.f57 := ⟨Tryd.func57, rfl, by kernel_rfl⟩
theorem fn58 : FnOk Tryd.prog 58 Tryd.f58 := ⟨Tryd.func58, rfl, by kernel_rfl⟩
theorem fn59 : FnOk Tryd.prog 59 Tryd.f59 := ⟨Tryd.func59, rfl, by kernel_rfl⟩
theorem fn60 : FnOk Tryd.prog 60 Tryd.f60 := ⟨Tryd.func60, rfl, by kernel_rfl⟩
theorem fn61 : FnOk Tryd.prog 61 Tryd.f61 := ⟨Tryd.func61, rfl, by kernel_rfl⟩
theorem fn62 : FnOk Tryd.prog 62 Tryd.f62 := ⟨Tryd.func62, rfl, by kernel_rfl⟩
theorem fn63 : FnOk Tryd.prog 63 Tryd.f63 := ⟨Tryd.func63, rfl, by kernel_rfl⟩
theorem fn64 : FnOk Tryd.prog 64 Tryd.f64 := ⟨Tryd.func64, rfl, by kernel_rfl⟩
theorem fn65 : FnOk Tryd.prog 65 Tryd.f65 := ⟨Tryd.func65, rfl, by kernel_rfl⟩
theorem fn66 : FnOk Tryd.prog 66 Tryd.f66 := ⟨Tryd.func66, rfl, by kernel_rfl⟩
theorem fn67 : FnOk Tryd.prog 67 Tryd.f67 := ⟨Tryd.func67, rfl, by kernel_rfl⟩
theorem fn68 : FnOk Tryd.prog 68 Tryd.f68 := ⟨Tryd.func68, rfl, by kernel_rfl⟩
theorem fn69 : FnOk Tryd.prog 69 Tryd.f69 := ⟨Tryd.func69, rfl, by kernel_rfl⟩
theorem fn70 : FnOk Tryd.prog 70 Tryd.f70 := ⟨Tryd.func70, rfl, by kernel_rfl⟩
theorem fn71 : FnOk Tryd.prog 71 Tryd.f71 := ⟨Tryd.func71, rfl, by kernel_rfl⟩
theorem fn72 : FnOk Tryd.prog 72 Tryd.f72 := ⟨Tryd.func72, rfl, by kernel_rfl⟩
theorem fn73 : FnOk Tryd.prog 73 Tryd.f73 := ⟨Tryd.func73, rfl, by kernel_rfl⟩
theorem fn74 : FnOk Tryd.prog 74 Tryd.f74 := ⟨Tryd.func74, rfl, by kernel_rfl⟩
theorem fn75 : FnOk Tryd.prog 75 Tryd.f75 := ⟨Tryd.func75, rfl, by kernel_rfl⟩
theorem fn76 : FnOk Tryd.prog 76 Tryd.f76 := ⟨Tryd.func76, rfl, by kernel_rfl⟩
theorem tysOk : Each (TyOk Tryd.prog) tys := ⟨ty0, ty1, ty2, ty3, ty4, ty5, ty6, ty7, ty8, ty9, ty10, ty11, ty12, ty13, ty14, ty15, ty16, ty17, ty18, ty19, ty20, ty21, ty22, ty23, ty24, ty25, ty26, ty27, ty28, ty29, ty30, ty31, ty32, ty33, ty34, ty35, ty36, ty37, ty38, ty39, ty40, ty41, ty42, ty43, ty44, ty45, ty46, ty47, ty48, ty49, ty50, ty51, ty52, ty53, ty54, ty55, ty56, ty57, ty58, ty59, ty60, ty61, ty62, ty63, ty64, ty65, ty66, ty67, ty68, ty69, ty70, ty71, ty72, ty73, ty74, ty75, ty76, ty77, ty78, ty79, ty80, ty81, ty82, ty83, ty84, ty85, ty86, ty87, ty88, ty89, ty90, ty91, ty92, ty93, ty94, ty95, ty96, ty97, ty98, ty99, ty100, ty101, ty102, ty103, ty104, ty105, ty106, ty107, ty108, ty109, ty110, ty111, ty112, ty113, ty114, ty115, ty116, ty117, ty118, trivial⟩
theorem fnsOk : Each (FnOk Tryd.prog) fns := ⟨fn3, fn4, fn5, fn6, fn7, fn8, fn9, fn10, fn11, fn12, fn13, fn14, fn15, fn16, fn17, fn18, fn19, fn20, fn21, fn22, fn23, fn24, fn25, fn26, fn27, fn28, fn29, fn30, fn31, fn32, fn33, fn34, fn35, fn36, fn37, fn38, fn39, fn40, fn41, fn42, fn43, fn44, fn45, fn46, fn47, fn48, fn49, fn50, fn51, fn52, fn53, fn54, fn55, fn56, fn57, fn58, fn59, fn60, fn61, fn62, fn63, fn64, fn65, fn66, fn67, fn68, fn69, fn70, fn71, fn72, fn73, fn74, fn75, fn76, trivial⟩
noncomputable def env : Env := { ty := Tr.ofList tys, fn := Tr.ofList fns }
theorem envOk : env.Ok Tryd.prog := Env.ok_of tysOk fnsOk (by decide +kernel) (by decide +kernel) (by kernel_rfl)
end Go.Proofs.YtkoeiednpbedlaaDoor
