/- Five functions more, and the table with them. Written by program. -/
import Derived.Test.YtjlaccjneaomgaaGreatDoorFkTz
namespace Go.Proofs.YtjlaccjneaomgaaGreatDoor
open Go Go.Fk
/- firkin/firkinlaw34.MarkNames -/
def ir3 : IFn := ⟨2, [.t p4],
 (.seq (.reg false [⟨d4, .mv (.c (.bool false)), none, 0, 0, 0⟩])
 (.seq (.seq (.reg false [⟨d10, .mv t1, none, 0, 0, 0⟩,
  ⟨d11, .len 0 t10, none, 1, 0, 0⟩,
  ⟨d12, .bin .gtr .scalar t11 (.c (.int .i64 (100))), none, 0, 0, 0⟩])
 (.cond t12
 (.seq (.reg false [⟨d13, .call (.f 7) [], none, 1, 0, 0⟩,
  ⟨d4, .mv t13, none, 0, 0, 0⟩])
 .ret)
 .skip))
 (.seq (.reg false [⟨d14, .mv t0, none, 0, 0, 0⟩,
  ⟨d15, .call (.f 8) [t14], none, 1, 0, 0⟩,
  ⟨d5, .mv t15, none, 0, 0, 0⟩])
 (.seq (.reg false [⟨d17, .mv t1, none, 0, 0, 0⟩,
  ⟨d18, .call (.f 9) [t17], none, 1, 0, 0⟩,
  ⟨d16, .mv t18, none, 0, 0, 0⟩,
  ⟨d19, .extract 0 t16, none, 0, 0, 0⟩,
  ⟨d20, .extract 1 t16, none, 0, 0, 0⟩,
  ⟨d6, .mv t19, none, 0, 0, 0⟩,
  ⟨d7, .mv t20, none, 0, 0, 0⟩])
 (.seq (.reg false [⟨d22, .mv t5, none, 0, 0, 0⟩,
  ⟨d23, .call (.f 9) [t22], none, 1, 0, 0⟩,
  ⟨d21, .mv t23, none, 0, 0, 0⟩,
  ⟨d24, .extract 0 t21, none, 0, 0, 0⟩,
  ⟨d25, .extract 1 t21, none, 0, 0, 0⟩,
  ⟨d8, .mv t24, none, 0, 0, 0⟩,
  ⟨d9, .mv t25, none, 0, 0, 0⟩])
 (.seq (.seq (.reg false [⟨d26, .mv t5, none, 0, 0, 0⟩,
  ⟨d27, .mv t0, none, 0, 0, 0⟩,
  ⟨d28, .call (.f 10) [t27], none, 1, 0, 0⟩,
  ⟨d29, .bin .neq .scalar t26 t28, none, 0, 0, 0⟩,
  ⟨d30, .mv t29, none, 0, 0, 0⟩,
  ⟨d31, .mv t6, (some (p30, false)), 0, 0, 0⟩,
  ⟨d32, .mv t1, (some (p30, false)), 0, 0, 0⟩,
  ⟨d33, .call (.f 11) [t32], (some (p30, false)), 1, 0, 0⟩,
  ⟨d34, .bin .neq .scalar t31 t33, (some (p30, false)), 0, 0, 0⟩,
  ⟨d35, .pick t30 (.c (.bool true)) t34, none, 0, 0, 0⟩,
  ⟨d36, .mv t35, none, 0, 0, 0⟩,
  ⟨d37, .mv t7, (some (p36, false)), 0, 0, 0⟩,
  ⟨d38, .mv t6, (some (p36, false)), 0, 0, 0⟩,
  ⟨d39, .bin .gtr .scalar t38 (.c (.int .i64 (0))), (some (p36, false)), 0, 0, 0⟩,
  ⟨d40, .bin .neq .bools t37 t39, (some (p36, false)), 0, 0, 0⟩,
  ⟨d41, .pick t36 (.c (.bool true)) t40, none, 0, 0, 0⟩,
  ⟨d42, .mv t41, none, 0, 0, 0⟩,
  ⟨d43, .mv t9, (some (p42, false)), 0, 0, 0⟩,
  ⟨d44, .mv t5, (some (p42, false)), 0, 0, 0⟩,
  ⟨d45, .bin .neq .scalar t44 (.c (.string (bsN []))), (some (p42, false)), 0, 0, 0⟩,
  ⟨d46, .bin .neq .bools t43 t45, (some (p42, false)), 0, 0, 0⟩,
  ⟨d47, .pick t42 (.c (.bool true)) t46, none, 0, 0, 0⟩,
  ⟨d48, .mv t47, none, 0, 0, 0⟩,
  ⟨d49, .mv t9, (some (p48, false)), 0, 0, 0⟩,
  ⟨d50, .mv t49, (some (p48, false)), 0, 0, 0⟩,
  ⟨d51, .mv t8, (some (p50, true)), 0, 0, 0⟩,
  ⟨d52, .mv t0, (some (p50, true)), 0, 0, 0⟩,
  ⟨d53, .bin .neq .scalar t51 t52, (some (p50, true)), 0, 0, 0⟩,
  ⟨d54, .pick t50 t53 (.c (.bool false)), (some (p48, false)), 0, 0, 0⟩,
  ⟨d55, .pick t48 (.c (.bool true)) t54, none, 0, 0, 0⟩])
 (.cond t55
 (.seq (.reg false [⟨d4, .mv (.c (.bool false)), none, 0, 0, 0⟩])
 .ret)
 .skip))
 (.seq (.reg false [⟨d56, .call (.f 13) [], none, 1, 0, 0⟩,
  ⟨d57, .call (.f 14) [], none, 1, 0, 0⟩,
  ⟨d58, .call (.f 12) [t56, t57], none, 1, 0, 0⟩,
  ⟨d59, .mv t58, none, 0, 0, 0⟩,
  ⟨d60, .call (.f 7) [], (some (p59, true)), 1, 0, 0⟩,
  ⟨d61, .pick t59 t60 (.c (.bool false)), none, 0, 0, 0⟩,
  ⟨d4, .mv t61, none, 0, 0, 0⟩])
 .ret)))))))⟩
theorem ok3 : GoodFn Tryz.prog kt (3, ir3) := ⟨Tryz.f3, fun _ _ => false, Tryz.func3, by kernel_rfl⟩
/- firkin/firkinref34.Name -/
def ir10 : IFn := ⟨1, [.t p2],
 (.seq (.reg false [⟨d2, .mv (.c (.string (bsN []))), none, 0, 0, 0⟩])
 (.seq (.seq (.reg false [⟨d5, .mv t0, none, 0, 0, 0⟩,
  ⟨d6, .bin .lss .scalar t5 (.c (.int .i64 (1))), none, 0, 0, 0⟩,
  ⟨d7, .mv t6, none, 0, 0, 0⟩,
  ⟨d8, .mv t0, (some (p7, false)), 0, 0, 0⟩,
  ⟨d9, .bin .gtr .scalar t8 (.c (.int .i64 (1073741824))), (some (p7, false)), 0, 0, 0⟩,
  ⟨d10, .pick t7 (.c (.bool true)) t9, none, 0, 0, 0⟩])
 (.cond t10
 (.seq (.reg false [⟨d2, .mv (.c (.string (bsN []))), none, 0, 0, 0⟩])
 .ret)
 .skip))
 (.seq (.reg false [⟨d3, .mv (.c (.string (bsN []))), none, 0, 0, 0⟩])
 (.seq (.seq (.reg false [⟨d4, .mv (.c (.int .i64 (0))), none, 0, 0, 0⟩])
 (.block 0 (.loop (.seq (.seq (.reg false [⟨d11, .mv t4, none, 0, 0, 0⟩,
  ⟨d12, .bin .lss .scalar t11 (.c (.int .i64 (10))), none, 0, 0, 0⟩])
 (.cond t12
 .skip
 (.exit 0)))
 (.seq (.block 1 (.seq (.reg false [⟨d15, .mv t0, none, 0, 0, 0⟩,
  ⟨d16, .bin .rem .scalar t15 (.c (.int .i64 (10))), none, 0, 0, 0⟩,
  ⟨d17, .bin .add .scalar (.c (.int .i64 (48))) t16, none, 0, 0, 0⟩,
  ⟨d18, .convInt .u8 t17, none, 0, 0, 0⟩,
  ⟨d19, .lit 1 1 (.int .u8 (0)) [(0, t18)], none, 0, 0, 0⟩,
  ⟨d20, .convStr false t19, none, 1, 0, 0⟩,
  ⟨d21, .mv t3, none, 0, 0, 0⟩,
  ⟨d22, .bin .add .scalar t20 t21, none, 0, 0, 0⟩,
  ⟨d3, .mv t22, none, 0, 0, 0⟩])
 (.reg false [⟨d23, .mv t0, none, 0, 0, 0⟩,
  ⟨d24, .bin .quo .scalar t23 (.c (.int .i64 (10))), none, 0, 0, 0⟩,
  ⟨d0, .mv t24, none, 0, 0, 0⟩])))
 (.reg false [⟨d13, .mv t4, none, 0, 0, 0⟩,
  ⟨d14, .bin .add .scalar t13 (.c (.int .i64 (1))), none, 0, 0, 0⟩,
  ⟨d4, .mv t14, none, 0, 0, 0⟩]))))))
 (.seq (.reg false [⟨d25, .mv t3, none, 0, 0, 0⟩,
  ⟨d26, .bin .add .scalar (.c (.string (bsN [118, 47]))) t25, none, 0, 0, 0⟩,
  ⟨d2, .mv t26, none, 0, 0, 0⟩])
 .ret)))))⟩
theorem ok10 : GoodFn Tryz.prog kt (10, ir10) := ⟨Tryz.f10, fun _ _ => false, Tryz.func10, by kernel_rfl⟩
/- firkin/firkinref34.Version -/
def ir11 : IFn := ⟨1, [.t p2],
 (.seq (.reg false [⟨d2, .mv (.c (.int .i64 (0))), none, 0, 0, 0⟩])
 (.seq (.reg false [⟨d3, .mv (.c (.int .i64 (0))), none, 0, 0, 0⟩])
 (.seq (.seq (.reg false [⟨d4, .mv (.c (.int .i64 (2))), none, 0, 0, 0⟩])
 (.block 0 (.loop (.seq (.seq (.reg false [⟨d5, .mv t4, none, 0, 0, 0⟩,
  ⟨d6, .mv t0, none, 0, 0, 0⟩,
  ⟨d7, .len 0 t6, none, 1, 0, 0⟩,
  ⟨d8, .bin .lss .scalar t5 t7, none, 0, 0, 0⟩,
  ⟨d9, .mv t8, none, 0, 0, 0⟩,
  ⟨d10, .mv t4, (some (p9, true)), 0, 0, 0⟩,
  ⟨d11, .bin .lss .scalar t10 (.c (.int .i64 (12))), (some (p9, true)), 0, 0, 0⟩,
  ⟨d12, .pick t9 t11 (.c (.bool false)), none, 0, 0, 0⟩])
 (.cond t12
 .skip
 (.exit 0)))
 (.seq (.block 1 (.seq (.seq (.reg false [⟨d15, .mv t0, none, 0, 0, 0⟩,
  ⟨d16, .mv t4, none, 0, 0, 0⟩,
  ⟨d17, .index none t15 t16, none, 0, 0, 0⟩,
  ⟨d18, .bin .lss .scalar t17 (.c (.int .u8 (48))), none, 0, 0, 0⟩,
  ⟨d19, .mv t18, none, 0, 0, 0⟩,
  ⟨d20, .mv t0, (some (p19, false)), 0, 0, 0⟩,
  ⟨d21, .mv t4, (some (p19, false)), 0, 0, 0⟩,
  ⟨d22, .index none t20 t21, (some (p19, false)), 0, 0, 0⟩,
  ⟨d23, .bin .gtr .scalar t22 (.c (.int .u8 (57))), (some (p19, false)), 0, 0, 0⟩,
  ⟨d24, .pick t19 (.c (.bool true)) t23, none, 0, 0, 0⟩])
 (.cond t24
 (.seq (.reg false [⟨d2, .mv (.c (.int .i64 (0))), none, 0, 0, 0⟩])
 .ret)
 .skip))
 (.reg false [⟨d25, .mv t3, none, 0, 0, 0⟩,
  ⟨d26, .bin .mul .scalar (.c (.int .i64 (10))) t25, none, 0, 0, 0⟩,
  ⟨d27, .mv t0, none, 0, 0, 0⟩,
  ⟨d28, .mv t4, none, 0, 0, 0⟩,
  ⟨d29, .index none t27 t28, none, 0, 0, 0⟩,
  ⟨d30, .bin .sub .scalar t29 (.c (.int .u8 (48))), none, 0, 0, 0⟩,
  ⟨d31, .convInt .i64 t30, none, 0, 0, 0⟩,
  ⟨d32, .bin .add .scalar t26 t31, none, 0, 0, 0⟩,
  ⟨d3, .mv t32, none, 0, 0, 0⟩])))
 (.reg false [⟨d13, .mv t4, none, 0, 0, 0⟩,
  ⟨d14, .bin .add .scalar t13 (.c (.int .i64 (1))), none, 0, 0, 0⟩,
  ⟨d4, .mv t14, none, 0, 0, 0⟩]))))))
 (.seq (.seq (.reg false [⟨d33, .mv t3, none, 0, 0, 0⟩,
  ⟨d34, .call (.f 10) [t33], none, 1, 0, 0⟩,
  ⟨d35, .mv t0, none, 0, 0, 0⟩,
  ⟨d36, .bin .neq .scalar t34 t35, none, 0, 0, 0⟩])
 (.cond t36
 (.seq (.reg false [⟨d2, .mv (.c (.int .i64 (0))), none, 0, 0, 0⟩])
 .ret)
 .skip))
 (.seq (.reg false [⟨d37, .mv t3, none, 0, 0, 0⟩,
  ⟨d2, .mv t37, none, 0, 0, 0⟩])
 .ret)))))⟩
theorem ok11 : GoodFn Tryz.prog kt (11, ir11) := ⟨Tryz.f11, fun _ _ => false, Tryz.func11, by kernel_rfl⟩
/- firkin/firkinref34.First -/
def ir14 : IFn := ⟨0, [.cell p0 true 3],
 (.seq (.reg false [⟨d0, .alloc [(.int .i64 (0)), (.int .i64 (0)), (.slice none 0 0)], none, 2, 0, 0⟩])
 (.seq (.reg false [⟨d1, .build [(.int .i64 (0)), (.int .i64 (0)), (.slice none 0 0)] [(1, 1, (.c (.int .i64 (1))))], none, 0, 0, 0⟩,
  ⟨none, .store 3 t0 t1, none, 3, 0, 0⟩])
 .ret))⟩
theorem ok14 : GoodFn Tryz.prog kt (14, ir14) := ⟨Tryz.f14, fun _ _ => false, Tryz.func14, by kernel_rfl⟩
def ftN : Tb IFn := (.n (.n (.n (.n (.n (.n (.n .nil (some (63, ir63)) .nil) (some (31, ir31)) (.n .nil (some (95, ir95)) .nil)) (some (15, ir15)) (.n (.n .nil (some (79, ir79)) .nil) none (.n .nil (some (111, ir111)) .nil))) (some (7, ir7)) (.n (.n (.n (.n .nil (some (135, ir135)) .nil) none .nil) (some (39, ir39)) (.n (.n .nil (some (167, ir167)) .nil) none .nil)) none (.n (.n (.n .nil (some (151, ir151)) .nil) none .nil) none (.n .nil (some (119, ir119)) .nil)))) (some (3, ir3)) (.n (.n (.n (.n (.n .nil (some (131, ir131)) .nil) none .nil) (some (35, ir35)) (.n (.n .nil (some (163, ir163)) .nil) none .nil)) (some (19, ir19)) (.n (.n (.n .nil (some (147, ir147)) .nil) (some (83, ir83)) .nil) none (.n (.n .nil (some (179, ir179)) .nil) none .nil))) (some (11, ir11)) (.n (.n (.n (.n .nil (some (139, ir139)) .nil) none .nil) none .nil) none .nil))) none (.n (.n (.n (.n (.n .nil (some (65, ir65)) .nil) (some (33, ir33)) .nil) (some (17, ir17)) (.n (.n .nil (some (81, ir81)) .nil) (some (49, ir49)) .nil)) (some (9, ir9)) (.n (.n (.n (.n .nil (some (137, ir137)) .nil) none .nil) (some (41, ir41)) .nil) none (.n (.n .nil (some (89, ir89)) .nil) none .nil))) none (.n (.n (.n (.n (.n .nil (some (133, ir133)) .nil) none .nil) (some (37, ir37)) .nil) none (.n (.n .nil (some (85, ir85)) .nil) none (.n (.n .nil (some (181, ir181)) .nil) (some (117, ir117)) .nil))) (some (13, ir13)) (.n (.n (.n .nil (some (77, ir77)) .nil) none .nil) (some (29, ir29)) (.n (.n .nil none (.n .nil (some (221, ir221)) .nil)) none (.n (.n .nil (some (189, ir189)) .nil) none .nil)))))) none (.n (.n (.n (.n (.n (.n .nil (some (64, ir64)) .nil) (some (32, ir32)) (.n .nil (some (96, ir96)) .nil)) (some (16, ir16)) (.n (.n (.n .nil (some (144, ir144)) .nil) (some (80, ir80)) .nil) none .nil)) (some (8, ir8)) (.n (.n (.n (.n .nil (some (136, ir136)) .nil) (some (72, ir72)) .nil) (some (40, ir40)) (.n (.n .nil (some (168, ir168)) .nil) none (.n .nil (some (232, ir232)) .nil))) none (.n (.n .nil (some (88, ir88)) (.n .nil (some (216, ir216)) .nil)) none (.n .nil (some (120, ir120)) .nil)))) (some (4, ir4)) (.n (.n (.n (.n (.n .nil (some (132, ir132)) .nil) none .nil) (some (36, ir36)) (.n (.n .nil (some (164, ir164)) .nil) none .nil)) none (.n (.n (.n .nil (some (148, ir148)) .nil) (some (84, ir84)) .nil) none (.n (.n .nil (some (180, ir180)) .nil) none .nil))) (some (12, ir12)) (.n (.n (.n .nil (some (76, ir76)) .nil) none .nil) (some (28, ir28)) (.n .nil none (.n (.n .nil (some (188, ir188)) .nil) none .nil))))) none (.n (.n (.n .nil (some (18, ir18)) (.n (.n (.n .nil (some (146, ir146)) .nil) (some (82, ir82)) .nil) (some (50, ir50)) .nil)) (some (10, ir10)) (.n (.n (.n (.n .nil (some (138, ir138)) .nil) none .nil) (some (42, ir42)) (.n .nil none (.n .nil (some (234, ir234)) .nil))) none (.n (.n .nil (some (90, ir90)) .nil) none .nil))) none (.n (.n (.n (.n (.n .nil (some (134, ir134)) .nil) (some (70, ir70)) .nil) (some (38, ir38)) .nil) none (.n (.n .nil (some (86, ir86)) .nil) none .nil)) (some (14, ir14)) (.n (.n (.n .nil (some (78, ir78)) .nil) none (.n .nil (some (110, ir110)) .nil)) (some (30, ir30)) (.n (.n .nil (some (94, ir94)) .nil) (some (62, ir62)) .nil))))))
theorem allFnN : AllL (GoodFn Tryz.prog kt) ftN.toL := ⟨ok63, ok31, ok95, ok15, ok79, ok111, ok7, ok135, ok39, ok167, ok151, ok119, ok3, ok131, ok35, ok163, ok19, ok147, ok83, ok179, ok11, ok139, ok65, ok33, ok17, ok81, ok49, ok9, ok137, ok41, ok89, ok133, ok37, ok85, ok181, ok117, ok13, ok77, ok29, ok221, ok189, ok64, ok32, ok96, ok16, ok144, ok80, ok8, ok136, ok72, ok40, ok168, ok232, ok88, ok216, ok120, ok4, ok132, ok36, ok164, ok148, ok84, ok180, ok12, ok76, ok28, ok188, ok18, ok146, ok82, ok50, ok10, ok138, ok42, ok234, ok90, ok134, ok70, ok38, ok86, ok14, ok78, ok110, ok30, ok94, ok62, trivial⟩
/- ORACLES (.n (.n (.n (.n (.n (.n .nil (some (31, atoiO)) .nil) none .nil) none .nil) none .nil) none (.n (.n (.n (.n .nil (some (33, trimPO)) .nil) none .nil) none .nil) none (.n .nil none (.n .nil (some (29, itoaO)) .nil)))) none (.n (.n (.n (.n (.n .nil (some (32, trimLO)) .nil) none .nil) none .nil) none .nil) none .nil)) -/
/- order [31, 33, 29, 32] -/
/- ORACLES2 (.n (.n (.n (.n (.n (.n .nil (some (31, atoiO)) .nil) none .nil) (some (7, liveO)) .nil) none .nil) none (.n (.n (.n (.n .nil (some (33, trimPO)) .nil) none .nil) none .nil) none (.n .nil none (.n .nil (some (29, itoaO)) .nil)))) none (.n (.n (.n (.n (.n .nil (some (32, trimLO)) .nil) none .nil) none .nil) none .nil) none .nil)) -/
/- order [31, 7, 33, 29, 32] -/
end Go.Proofs.YtjlaccjneaomgaaGreatDoor
