/- Resolved functions, part 2. Written by program. -/
import Derived.Test.YtjlaccjneaomgaaGreatDoorFkT0
namespace Go.Proofs.YtjlaccjneaomgaaGreatDoor
open Go Go.Fk
/- firkin/world.New -/
def ir17 : IFn := ⟨0, [.t p0],
 (.seq (.reg false [⟨d0, .mv (.c (.pointer none)), none, 0, 0, 0⟩])
 (.seq (.reg false [⟨d1, .mkmap, none, 3, 0, 0⟩,
  ⟨d2, .build [(.map none), (.slice none 0 0), (.int .i64 (0)), (.bool false), (.int .i64 (0)), (.int .i64 (0))] [(0, 1, t1), (2, 1, (.c (.int .i64 (-1))))], none, 0, 0, 0⟩,
  ⟨d3, .box t2, none, 3, 0, 0⟩,
  ⟨d0, .mv t3, none, 0, 0, 0⟩])
 .ret))⟩
theorem ok17 : GoodFn Tryz.prog kt (17, ir17) := ⟨Tryz.f17, fun _ _ => false, Tryz.func17, by kernel_rfl⟩
/- (*firkin/world.World).Made -/
def ir77 : IFn := ⟨1, [.t p2],
 (.seq (.reg false [⟨d2, .mv (.c (.bool false)), none, 0, 0, 0⟩])
 (.seq (.reg false [⟨d3, .mv t0, none, 0, 0, 0⟩,
  ⟨d4, .call (.f 49) [t3], none, 1, 0, 0⟩,
  ⟨d2, .mv t4, none, 0, 0, 0⟩])
 .ret))⟩
theorem ok77 : GoodFn Tryz.prog kt (77, ir77) := ⟨Tryz.f77, fun _ _ => false, Tryz.func77, by kernel_rfl⟩
/- (*firkin/world.World).is -/
def ir49 : IFn := ⟨1, [.t p2],
 (.seq (.reg false [⟨d2, .mv (.c (.bool false)), none, 0, 0, 0⟩])
 (.seq (.reg false [⟨d3, .mv t0, none, 0, 0, 0⟩,
  ⟨d4, .bin .neq (.ref .ptr) t3 (.c (.pointer none)), none, 0, 0, 0⟩,
  ⟨d5, .mv t4, none, 0, 0, 0⟩,
  ⟨d6, .mv t0, (some (p5, true)), 0, 0, 0⟩,
  ⟨d7, .nilCheck t6, (some (p5, true)), 0, 0, 0⟩,
  ⟨d8, .faddr 0 t7, (some (p5, true)), 0, 0, 0⟩,
  ⟨d9, .load false 1 t8, (some (p5, true)), 1, 0, 0⟩,
  ⟨d10, .bin .neq (.ref .map) t9 (.c (.map none)), (some (p5, true)), 0, 0, 0⟩,
  ⟨d11, .pick t5 t10 (.c (.bool false)), none, 0, 0, 0⟩,
  ⟨d2, .mv t11, none, 0, 0, 0⟩])
 .ret))⟩
theorem ok49 : GoodFn Tryz.prog kt (49, ir49) := ⟨Tryz.f49, fun _ _ => false, Tryz.func49, by kernel_rfl⟩
/- firkin/manif.Check -/
def ir89 : IFn := ⟨1, [.t p2],
 (.seq (.reg false [⟨d1, .box t0, none, 3, 0, 0⟩,
  ⟨d2, .mv (.c (.int .i64 (0))), none, 0, 0, 0⟩])
 (.seq (.seq (.reg false [⟨d6, .faddr 0 t1, none, 0, 0, 0⟩,
  ⟨d7, .load false 1 t6, none, 1, 0, 0⟩,
  ⟨d8, .call (.f 144) [t7, (.c (.int .i64 (0))), (.c (.int .i64 (1073741824)))], none, 1, 0, 0⟩,
  ⟨d9, .un .not t8, none, 0, 0, 0⟩,
  ⟨d10, .mv t9, none, 0, 0, 0⟩,
  ⟨d11, .faddr 1 t1, (some (p10, false)), 0, 0, 0⟩,
  ⟨d12, .load false 1 t11, (some (p10, false)), 1, 0, 0⟩,
  ⟨d13, .call (.f 144) [t12, (.c (.int .i64 (0))), (.c (.int .i64 (1073741824)))], (some (p10, false)), 1, 0, 0⟩,
  ⟨d14, .un .not t13, (some (p10, false)), 0, 0, 0⟩,
  ⟨d15, .pick t10 (.c (.bool true)) t14, none, 0, 0, 0⟩,
  ⟨d16, .mv t15, none, 0, 0, 0⟩,
  ⟨d17, .faddr 2 t1, (some (p16, false)), 0, 0, 0⟩,
  ⟨d18, .load false 1 t17, (some (p16, false)), 1, 0, 0⟩,
  ⟨d19, .len 1 t18, (some (p16, false)), 1, 0, 0⟩,
  ⟨d20, .bin .gtr .scalar t19 (.c (.int .i64 (6))), (some (p16, false)), 0, 0, 0⟩,
  ⟨d21, .pick t16 (.c (.bool true)) t20, none, 0, 0, 0⟩])
 (.cond t21
 (.seq (.reg false [⟨d2, .mv (.c (.int .i64 (1))), none, 0, 0, 0⟩])
 .ret)
 .skip))
 (.seq (.seq (.reg false [⟨d22, .faddr 2 t1, none, 0, 0, 0⟩,
  ⟨d23, .load false 1 t22, none, 1, 0, 0⟩,
  ⟨d24, .len 1 t23, none, 1, 0, 0⟩,
  ⟨d25, .mv (.c (.int .i64 (0))), none, 0, 0, 0⟩])
 (.block 0 (.loop (.seq (.reg false [⟨d26, .bin .lss .scalar t25 t24, none, 0, 0, 0⟩])
 (.seq (.cond t26
 .skip
 (.exit 0))
 (.seq (.block 1 (.seq (.reg false [⟨d27, .mv t25, none, 0, 0, 0⟩,
  ⟨d28, .iaddr none 3 t23 t25, none, 0, 0, 0⟩,
  ⟨d29, .load true 3 t28, none, 1, 0, 0⟩,
  ⟨d4, .alloc [(.string (bsN [])), (.slice none 0 0), (.slice none 0 0)], none, 2, 0, 0⟩,
  ⟨d3, .mv t27, none, 0, 0, 0⟩,
  ⟨none, .store 3 t4 t29, none, 3, 0, 0⟩])
 (.seq (.reg true [⟨d30, .load true 3 t4, none, 1, 0, 0⟩,
  ⟨d31, .faddr 1 t1, none, 0, 0, 0⟩,
  ⟨d32, .load false 1 t31, none, 1, 0, 0⟩,
  ⟨d33, .call (.f 145) [t30, t32], none, 1, 0, 0⟩,
  ⟨d34, .un .not t33, none, 0, 0, 0⟩,
  ⟨d35, .mv t34, none, 0, 0, 0⟩,
  ⟨d36, .mv t3, (some (p35, false)), 0, 0, 0⟩,
  ⟨d37, .bin .gtr .scalar t36 (.c (.int .i64 (0))), (some (p35, false)), 0, 0, 0⟩,
  ⟨d38, .mv t37, (some (p35, false)), 0, 0, 0⟩,
  ⟨d39, .faddr 2 t1, (some (p38, true)), 0, 0, 0⟩,
  ⟨d40, .load false 1 t39, (some (p38, true)), 1, 0, 0⟩,
  ⟨d41, .mv t3, (some (p38, true)), 0, 0, 0⟩,
  ⟨d42, .bin .sub .scalar t41 (.c (.int .i64 (1))), (some (p38, true)), 0, 0, 0⟩,
  ⟨d43, .iaddr none 3 t40 t42, (some (p38, true)), 0, 0, 0⟩,
  ⟨d44, .faddr 0 t43, (some (p38, true)), 0, 0, 0⟩,
  ⟨d45, .load false 1 t44, (some (p38, true)), 1, 0, 0⟩,
  ⟨d46, .faddr 0 t4, (some (p38, true)), 0, 0, 0⟩,
  ⟨d47, .load false 1 t46, (some (p38, true)), 1, 0, 0⟩,
  ⟨d48, .bin .geq .scalar t45 t47, (some (p38, true)), 0, 0, 0⟩,
  ⟨d49, .pick t38 t48 (.c (.bool false)), (some (p35, false)), 0, 0, 0⟩,
  ⟨d50, .pick t35 (.c (.bool true)) t49, none, 0, 0, 0⟩])
 (.cond t50
 (.seq (.reg false [⟨d2, .mv (.c (.int .i64 (1))), none, 0, 0, 0⟩])
 .ret)
 .skip))))
 (.reg false [⟨d51, .bin .add .scalar t25 (.c (.int .i64 (1))), none, 0, 0, 0⟩,
  ⟨d25, .mv t51, none, 0, 0, 0⟩])))))))
 (.seq (.seq (.reg false [⟨d52, .load true 3 t1, none, 1, 0, 0⟩,
  ⟨d53, .call (.f 146) [t52], none, 1, 0, 0⟩,
  ⟨d5, .mv t53, none, 0, 0, 0⟩])
 (.seq (.reg false [⟨d54, .mv t5, none, 0, 0, 0⟩,
  ⟨d55, .call (.f 50) [t54], none, 3, 0, 0⟩,
  ⟨d56, .call (.f 147) [t55], none, 1, 0, 0⟩,
  ⟨d57, .len 1 t56, none, 1, 0, 0⟩,
  ⟨d58, .mv t5, none, 0, 0, 0⟩,
  ⟨d59, .len 1 t58, none, 1, 0, 0⟩,
  ⟨d60, .bin .neq .scalar t57 t59, none, 0, 0, 0⟩])
 (.cond t60
 (.seq (.reg false [⟨d2, .mv (.c (.int .i64 (1))), none, 0, 0, 0⟩])
 .ret)
 .skip)))
 (.seq (.reg false [⟨d2, .mv (.c (.int .i64 (0))), none, 0, 0, 0⟩])
 .ret)))))⟩
theorem ok89 : GoodFn Tryz.prog kt (89, ir89) := ⟨Tryz.f89, fun _ _ => false, Tryz.func89, by kernel_rfl⟩
/- slices.Clone[[]int,int] -/
def ir50 : IFn := ⟨1, [.t p2],
 (.seq (.reg false [⟨d2, .mv (.c (.slice none 0 0)), none, 0, 0, 0⟩])
 (.seq (.seq (.reg false [⟨d3, .mv t0, none, 0, 0, 0⟩,
  ⟨d4, .bin .eql (.ref .slice) t3 (.c (.slice none 0 0)), none, 0, 0, 0⟩])
 (.cond t4
 (.seq (.reg false [⟨d2, .mv (.c (.slice none 0 0)), none, 0, 0, 0⟩])
 .ret)
 .skip))
 (.seq (.reg false [⟨d5, .lit 1 0 (.int .i64 (0)) [], none, 0, 0, 0⟩,
  ⟨d6, .mv t0, none, 0, 0, 0⟩,
  ⟨d7, .append false 1 8 none t5 t6, none, 3, 0, 0⟩,
  ⟨d2, .mv t7, none, 0, 0, 0⟩])
 .ret)))⟩
theorem ok50 : GoodFn Tryz.prog kt (50, ir50) := ⟨Tryz.f50, fun _ _ => false, Tryz.func50, by kernel_rfl⟩
/- slices.Compact[[]int,int] -/
def ir147 : IFn := ⟨1, [.t p2],
 (.seq (.reg false [⟨d2, .mv (.c (.slice none 0 0)), none, 0, 0, 0⟩])
 (.seq (.seq (.reg false [⟨d6, .mv t0, none, 0, 0, 0⟩,
  ⟨d7, .len 1 t6, none, 1, 0, 0⟩,
  ⟨d8, .bin .lss .scalar t7 (.c (.int .i64 (2))), none, 0, 0, 0⟩])
 (.cond t8
 (.seq (.reg false [⟨d9, .mv t0, none, 0, 0, 0⟩,
  ⟨d2, .mv t9, none, 0, 0, 0⟩])
 .ret)
 .skip))
 (.seq (.seq (.reg false [⟨d3, .mv (.c (.int .i64 (1))), none, 0, 0, 0⟩])
 (.block 0 (.loop (.seq (.seq (.reg false [⟨d10, .mv t3, none, 0, 0, 0⟩,
  ⟨d11, .mv t0, none, 0, 0, 0⟩,
  ⟨d12, .len 1 t11, none, 1, 0, 0⟩,
  ⟨d13, .bin .lss .scalar t10 t12, none, 0, 0, 0⟩])
 (.cond t13
 .skip
 (.exit 0)))
 (.seq (.block 1 (.seq (.reg true [⟨d16, .mv t0, none, 0, 0, 0⟩,
  ⟨d17, .mv t3, none, 0, 0, 0⟩,
  ⟨d18, .iaddr none 1 t16 t17, none, 0, 0, 0⟩,
  ⟨d19, .load false 1 t18, none, 1, 0, 0⟩,
  ⟨d20, .mv t0, none, 0, 0, 0⟩,
  ⟨d21, .mv t3, none, 0, 0, 0⟩,
  ⟨d22, .bin .sub .scalar t21 (.c (.int .i64 (1))), none, 0, 0, 0⟩,
  ⟨d23, .iaddr none 1 t20 t22, none, 0, 0, 0⟩,
  ⟨d24, .load false 1 t23, none, 1, 0, 0⟩,
  ⟨d25, .bin .eql .scalar t19 t24, none, 0, 0, 0⟩])
 (.cond t25
 (.seq (.reg false [⟨d26, .mv t0, none, 0, 0, 0⟩,
  ⟨d27, .mv t3, none, 0, 0, 0⟩,
  ⟨d28, .slice 2 0 1 t26 (some t27) none none, none, 0, 0, 0⟩,
  ⟨d4, .mv t28, none, 0, 0, 0⟩])
 (.seq (.seq (.reg false [⟨d5, .mv (.c (.int .i64 (1))), none, 0, 0, 0⟩])
 (.block 2 (.loop (.seq (.seq (.reg false [⟨d29, .mv t5, none, 0, 0, 0⟩,
  ⟨d30, .mv t4, none, 0, 0, 0⟩,
  ⟨d31, .len 1 t30, none, 1, 0, 0⟩,
  ⟨d32, .bin .lss .scalar t29 t31, none, 0, 0, 0⟩])
 (.cond t32
 .skip
 (.exit 2)))
 (.seq (.block 3 (.seq (.reg true [⟨d35, .mv t4, none, 0, 0, 0⟩,
  ⟨d36, .mv t5, none, 0, 0, 0⟩,
  ⟨d37, .iaddr none 1 t35 t36, none, 0, 0, 0⟩,
  ⟨d38, .load false 1 t37, none, 1, 0, 0⟩,
  ⟨d39, .mv t4, none, 0, 0, 0⟩,
  ⟨d40, .mv t5, none, 0, 0, 0⟩,
  ⟨d41, .bin .sub .scalar t40 (.c (.int .i64 (1))), none, 0, 0, 0⟩,
  ⟨d42, .iaddr none 1 t39 t41, none, 0, 0, 0⟩,
  ⟨d43, .load false 1 t42, none, 1, 0, 0⟩,
  ⟨d44, .bin .neq .scalar t38 t43, none, 0, 0, 0⟩])
 (.cond t44
 (.seq (.reg false [⟨d45, .mv t0, none, 0, 0, 0⟩,
  ⟨d46, .mv t3, none, 0, 0, 0⟩,
  ⟨d47, .mv t4, none, 0, 0, 0⟩,
  ⟨d48, .mv t5, none, 0, 0, 0⟩,
  ⟨d49, .iaddr none 1 t47 t48, none, 0, 0, 0⟩,
  ⟨d50, .load false 1 t49, none, 1, 0, 0⟩,
  ⟨d51, .iaddr none 1 t45 t46, none, 0, 0, 0⟩,
  ⟨none, .store 1 t51 t50, none, 3, 0, 0⟩])
 (.reg false [⟨d52, .mv t3, none, 0, 0, 0⟩,
  ⟨d53, .bin .add .scalar t52 (.c (.int .i64 (1))), none, 0, 0, 0⟩,
  ⟨d3, .mv t53, none, 0, 0, 0⟩]))
 .skip)))
 (.reg false [⟨d33, .mv t5, none, 0, 0, 0⟩,
  ⟨d34, .bin .add .scalar t33 (.c (.int .i64 (1))), none, 0, 0, 0⟩,
  ⟨d5, .mv t34, none, 0, 0, 0⟩]))))))
 (.seq (.reg false [⟨d54, .mv t0, none, 0, 0, 0⟩,
  ⟨d55, .mv t3, none, 0, 0, 0⟩,
  ⟨d56, .slice 2 0 1 t54 (some t55) none none, none, 0, 0, 0⟩,
  ⟨none, .clear 1 (.int .i64 (0)) t56, none, 3, 0, 0⟩])
 (.seq (.reg false [⟨d57, .mv t0, none, 0, 0, 0⟩,
  ⟨d58, .mv t3, none, 0, 0, 0⟩,
  ⟨d59, .slice 2 0 1 t57 none (some t58) none, none, 0, 0, 0⟩,
  ⟨d2, .mv t59, none, 0, 0, 0⟩])
 .ret))))
 .skip)))
 (.reg false [⟨d14, .mv t3, none, 0, 0, 0⟩,
  ⟨d15, .bin .add .scalar t14 (.c (.int .i64 (1))), none, 0, 0, 0⟩,
  ⟨d3, .mv t15, none, 0, 0, 0⟩]))))))
 (.seq (.reg false [⟨d60, .mv t0, none, 0, 0, 0⟩,
  ⟨d2, .mv t60, none, 0, 0, 0⟩])
 .ret))))⟩
theorem ok147 : GoodFn Tryz.prog kt (147, ir147) := ⟨Tryz.f147, fun _ _ => false, Tryz.func147, by kernel_rfl⟩
/- firkin/crc.Of -/
def ir180 : IFn := ⟨1, [.t p2],
 (.seq (.reg false [⟨d2, .mv (.c (.int .u32 (0))), none, 0, 0, 0⟩])
 (.seq (.reg false [⟨d3, .mv (.c (.int .u32 (0))), none, 0, 0, 0⟩])
 (.seq (.seq (.reg false [⟨d6, .mv t0, none, 0, 0, 0⟩,
  ⟨d7, .len 1 t6, none, 1, 0, 0⟩,
  ⟨d8, .mv (.c (.int .i64 (0))), none, 0, 0, 0⟩])
 (.block 0 (.loop (.seq (.reg false [⟨d9, .bin .lss .scalar t8 t7, none, 0, 0, 0⟩])
 (.seq (.cond t9
 .skip
 (.exit 0))
 (.seq (.block 1 (.seq (.reg false [⟨d10, .iaddr none 1 t6 t8, none, 0, 0, 0⟩,
  ⟨d11, .load false 1 t10, none, 1, 0, 0⟩,
  ⟨d5, .mv t11, none, 0, 0, 0⟩])
 (.reg false [⟨d12, .mv t3, none, 0, 0, 0⟩,
  ⟨d13, .mv t5, none, 0, 0, 0⟩,
  ⟨d14, .call (.f 216) [t12, t13], none, 1, 0, 0⟩,
  ⟨d3, .mv t14, none, 0, 0, 0⟩])))
 (.reg false [⟨d15, .bin .add .scalar t8 (.c (.int .i64 (1))), none, 0, 0, 0⟩,
  ⟨d8, .mv t15, none, 0, 0, 0⟩])))))))
 (.seq (.reg false [⟨d16, .mv t3, none, 0, 0, 0⟩,
  ⟨d2, .mv t16, none, 0, 0, 0⟩])
 .ret))))⟩
theorem ok180 : GoodFn Tryz.prog kt (180, ir180) := ⟨Tryz.f180, fun _ _ => false, Tryz.func180, by kernel_rfl⟩
/- firkin/mark.Name -/
def ir8 : IFn := ⟨1, [.t p2],
 (.seq (.reg false [⟨d2, .mv (.c (.string (bsN []))), none, 0, 0, 0⟩])
 (.seq (.seq (.reg false [⟨d4, .mv t0, none, 0, 0, 0⟩,
  ⟨d5, .bin .lss .scalar t4 (.c (.int .i64 (1))), none, 0, 0, 0⟩,
  ⟨d6, .mv t5, none, 0, 0, 0⟩,
  ⟨d7, .mv t0, (some (p6, false)), 0, 0, 0⟩,
  ⟨d8, .bin .gtr .scalar t7 (.c (.int .i64 (1073741824))), (some (p6, false)), 0, 0, 0⟩,
  ⟨d9, .pick t6 (.c (.bool true)) t8, none, 0, 0, 0⟩])
 (.cond t9
 (.seq (.reg false [⟨d2, .mv (.c (.string (bsN []))), none, 0, 0, 0⟩])
 .ret)
 .skip))
 (.seq (.reg false [⟨d10, .mv t0, none, 0, 0, 0⟩,
  ⟨d11, .call (.f 29) [t10], none, 1, 0, 0⟩,
  ⟨d3, .mv t11, none, 0, 0, 0⟩])
 (.seq (.reg false [⟨d12, .mv t3, none, 0, 0, 0⟩,
  ⟨d13, .len 0 t12, none, 1, 0, 0⟩,
  ⟨d14, .bin .sub .scalar (.c (.int .i64 (10))) t13, none, 0, 0, 0⟩,
  ⟨d15, .call (.f 30) [(.c (.string (bsN [48]))), t14], none, 1, 0, 0⟩,
  ⟨d16, .bin .add .scalar (.c (.string (bsN [118, 47]))) t15, none, 0, 0, 0⟩,
  ⟨d17, .mv t3, none, 0, 0, 0⟩,
  ⟨d18, .bin .add .scalar t16 t17, none, 0, 0, 0⟩,
  ⟨d2, .mv t18, none, 0, 0, 0⟩])
 .ret))))⟩
theorem ok8 : GoodFn Tryz.prog kt (8, ir8) := ⟨Tryz.f8, fun _ _ => false, Tryz.func8, by kernel_rfl⟩
/- strings.Repeat -/
def ir30 : IFn := ⟨2, [.t p4],
 (.seq (.reg false [⟨d4, .mv (.c (.string (bsN []))), none, 0, 0, 0⟩])
 (.seq (.seq (.reg false [⟨d11, .mv t1, none, 0, 0, 0⟩])
 (.block 0 (.seq (.reg false [⟨d13, .bin .eql .scalar t11 (.c (.int .i64 (0))), none, 0, 0, 0⟩,
  ⟨d12, .mv t13, none, 0, 0, 0⟩])
 (.cond t12
 (.seq (.reg false [⟨d4, .mv (.c (.string (bsN []))), none, 0, 0, 0⟩])
 .ret)
 (.seq (.reg false [⟨d15, .bin .eql .scalar t11 (.c (.int .i64 (1))), none, 0, 0, 0⟩,
  ⟨d14, .mv t15, none, 0, 0, 0⟩])
 (.cond t14
 (.seq (.reg false [⟨d16, .mv t0, none, 0, 0, 0⟩,
  ⟨d4, .mv t16, none, 0, 0, 0⟩])
 .ret)
 .skip))))))
 (.seq (.seq (.reg false [⟨d17, .mv t1, none, 0, 0, 0⟩,
  ⟨d18, .bin .lss .scalar t17 (.c (.int .i64 (0))), none, 0, 0, 0⟩])
 (.cond t18
 .bad
 .skip))
 (.seq (.reg false [⟨d21, .mv t0, none, 0, 0, 0⟩,
  ⟨d22, .len 0 t21, none, 1, 0, 0⟩,
  ⟨d23, .convInt .u64 t22, none, 0, 0, 0⟩,
  ⟨d24, .mv t1, none, 0, 0, 0⟩,
  ⟨d25, .convInt .u64 t24, none, 0, 0, 0⟩,
  ⟨d26, .call (.f 64) [t23, t25], none, 1, 0, 0⟩,
  ⟨d20, .mv t26, none, 0, 0, 0⟩,
  ⟨d27, .extract 0 t20, none, 0, 0, 0⟩,
  ⟨d28, .extract 1 t20, none, 0, 0, 0⟩,
  ⟨d5, .mv t27, none, 0, 0, 0⟩,
  ⟨d6, .mv t28, none, 0, 0, 0⟩])
 (.seq (.seq (.reg false [⟨d29, .mv t5, none, 0, 0, 0⟩,
  ⟨d30, .bin .gtr .scalar t29 (.c (.int .u64 (0))), none, 0, 0, 0⟩,
  ⟨d31, .mv t30, none, 0, 0, 0⟩,
  ⟨d32, .mv t6, (some (p31, false)), 0, 0, 0⟩,
  ⟨d33, .bin .gtr .scalar t32 (.c (.int .u64 (9223372036854775807))), (some (p31, false)), 0, 0, 0⟩,
  ⟨d34, .pick t31 (.c (.bool true)) t33, none, 0, 0, 0⟩])
 (.cond t34
 .bad
 .skip))
 (.seq (.reg false [⟨d36, .mv t6, none, 0, 0, 0⟩,
  ⟨d37, .convInt .i64 t36, none, 0, 0, 0⟩,
  ⟨d7, .mv t37, none, 0, 0, 0⟩])
 (.seq (.seq (.reg false [⟨d38, .mv t0, none, 0, 0, 0⟩,
  ⟨d39, .len 0 t38, none, 1, 0, 0⟩,
  ⟨d40, .bin .eql .scalar t39 (.c (.int .i64 (0))), none, 0, 0, 0⟩])
 (.cond t40
 (.seq (.reg false [⟨d4, .mv (.c (.string (bsN []))), none, 0, 0, 0⟩])
 .ret)
 .skip))
 (.seq (.seq (.reg false [⟨d41, .mv t0, none, 0, 0, 0⟩,
  ⟨d42, .index none t41 (.c (.int .i64 (0))), none, 0, 0, 0⟩])
 (.block 1 (.seq (.seq (.reg false [⟨d44, .bin .eql .scalar t42 (.c (.int .u8 (32))), none, 0, 0, 0⟩,
  ⟨d43, .mv t44, none, 0, 0, 0⟩])
 (.cond t43
 .skip
 (.seq (.reg false [⟨d45, .bin .eql .scalar t42 (.c (.int .u8 (45))), none, 0, 0, 0⟩,
  ⟨d43, .mv t45, none, 0, 0, 0⟩])
 (.cond t43
 .skip
 (.seq (.reg false [⟨d46, .bin .eql .scalar t42 (.c (.int .u8 (48))), none, 0, 0, 0⟩,
  ⟨d43, .mv t46, none, 0, 0, 0⟩])
 (.cond t43
 .skip
 (.seq (.reg false [⟨d47, .bin .eql .scalar t42 (.c (.int .u8 (61))), none, 0, 0, 0⟩,
  ⟨d43, .mv t47, none, 0, 0, 0⟩])
 (.cond t43
 .skip
 (.reg false [⟨d48, .bin .eql .scalar t42 (.c (.int .u8 (9))), none, 0, 0, 0⟩,
  ⟨d43, .mv t48, none, 0, 0, 0⟩])))))))))
 (.cond t43
 (.block 2 (.seq (.reg false [⟨d50, .mv t7, none, 0, 0, 0⟩,
  ⟨d51, .bin .leq .scalar t50 (.c (.int .i64 (128))), none, 0, 0, 0⟩,
  ⟨d52, .mv t51, none, 0, 0, 0⟩,
  ⟨d53, .mv t0, (some (p52, true)), 0, 0, 0⟩,
  ⟨d54, .call (.f 65) [(.c (.string (bsN [32, 32, 32, 32, 32, 32, 32, 32, 32, 32, 32, 32, 32, 32, 32, 32, 32, 32, 32, 32, 32, 32, 32, 32, 32, 32, 32, 32, 32, 32, 32, 32, 32, 32, 32, 32, 32, 32, 32, 32, 32, 32, 32, 32, 32, 32, 32, 32, 32, 32, 32, 32, 32, 32, 32, 32, 32, 32, 32, 32, 32, 32, 32, 32, 32, 32, 32, 32, 32, 32, 32, 32, 32, 32, 32, 32, 32, 32, 32, 32, 32, 32, 32, 32, 32, 32, 32, 32, 32, 32, 32, 32, 32, 32, 32, 32, 32, 32, 32, 32, 32, 32, 32, 32, 32, 32, 32, 32, 32, 32, 32, 32, 32, 32, 32, 32, 32, 32, 32, 32, 32, 32, 32, 32, 32, 32, 32, 32]))), t53], (some (p52, true)), 1, 0, 0⟩,
  ⟨d55, .pick t52 t54 (.c (.bool false)), none, 0, 0, 0⟩,
  ⟨d49, .mv t55, none, 0, 0, 0⟩])
 (.cond t49
 (.seq (.reg false [⟨d56, .mv t7, none, 0, 0, 0⟩,
  ⟨d57, .slice 0 0 0 (.c (.string (bsN [32, 32, 32, 32, 32, 32, 32, 32, 32, 32, 32, 32, 32, 32, 32, 32, 32, 32, 32, 32, 32, 32, 32, 32, 32, 32, 32, 32, 32, 32, 32, 32, 32, 32, 32, 32, 32, 32, 32, 32, 32, 32, 32, 32, 32, 32, 32, 32, 32, 32, 32, 32, 32, 32, 32, 32, 32, 32, 32, 32, 32, 32, 32, 32, 32, 32, 32, 32, 32, 32, 32, 32, 32, 32, 32, 32, 32, 32, 32, 32, 32, 32, 32, 32, 32, 32, 32, 32, 32, 32, 32, 32, 32, 32, 32, 32, 32, 32, 32, 32, 32, 32, 32, 32, 32, 32, 32, 32, 32, 32, 32, 32, 32, 32, 32, 32, 32, 32, 32, 32, 32, 32, 32, 32, 32, 32, 32, 32]))) none (some t56) none, none, 0, 0, 0⟩,
  ⟨d4, .mv t57, none, 0, 0, 0⟩])
 .ret)
 (.seq (.reg false [⟨d59, .mv t7, none, 0, 0, 0⟩,
  ⟨d60, .bin .leq .scalar t59 (.c (.int .i64 (128))), none, 0, 0, 0⟩,
  ⟨d61, .mv t60, none, 0, 0, 0⟩,
  ⟨d62, .mv t0, (some (p61, true)), 0, 0, 0⟩,
  ⟨d63, .call (.f 65) [(.c (.string (bsN [45, 45, 45, 45, 45, 45, 45, 45, 45, 45, 45, 45, 45, 45, 45, 45, 45, 45, 45, 45, 45, 45, 45, 45, 45, 45, 45, 45, 45, 45, 45, 45, 45, 45, 45, 45, 45, 45, 45, 45, 45, 45, 45, 45, 45, 45, 45, 45, 45, 45, 45, 45, 45, 45, 45, 45, 45, 45, 45, 45, 45, 45, 45, 45, 45, 45, 45, 45, 45, 45, 45, 45, 45, 45, 45, 45, 45, 45, 45, 45, 45, 45, 45, 45, 45, 45, 45, 45, 45, 45, 45, 45, 45, 45, 45, 45, 45, 45, 45, 45, 45, 45, 45, 45, 45, 45, 45, 45, 45, 45, 45, 45, 45, 45, 45, 45, 45, 45, 45, 45, 45, 45, 45, 45, 45, 45, 45, 45]))), t62], (some (p61, true)), 1, 0, 0⟩,
  ⟨d64, .pick t61 t63 (.c (.bool false)), none, 0, 0, 0⟩,
  ⟨d58, .mv t64, none, 0, 0, 0⟩])
 (.cond t58
 (.seq (.reg false [⟨d65, .mv t7, none, 0, 0, 0⟩,
  ⟨d66, .slice 0 0 0 (.c (.string (bsN [45, 45, 45, 45, 45, 45, 45, 45, 45, 45, 45, 45, 45, 45, 45, 45, 45, 45, 45, 45, 45, 45, 45, 45, 45, 45, 45, 45, 45, 45, 45, 45, 45, 45, 45, 45, 45, 45, 45, 45, 45, 45, 45, 45, 45, 45, 45, 45, 45, 45, 45, 45, 45, 45, 45, 45, 45, 45, 45, 45, 45, 45, 45, 45, 45, 45, 45, 45, 45, 45, 45, 45, 45, 45, 45, 45, 45, 45, 45, 45, 45, 45, 45, 45, 45, 45, 45, 45, 45, 45, 45, 45, 45, 45, 45, 45, 45, 45, 45, 45, 45, 45, 45, 45, 45, 45, 45, 45, 45, 45, 45, 45, 45, 45, 45, 45, 45, 45, 45, 45, 45, 45, 45, 45, 45, 45, 45, 45]))) none (some t65) none, none, 0, 0, 0⟩,
  ⟨d4, .mv t66, none, 0, 0, 0⟩])
 .ret)
 (.seq (.reg false [⟨d68, .mv t7, none, 0, 0, 0⟩,
  ⟨d69, .bin .leq .scalar t68 (.c (.int .i64 (64))), none, 0, 0, 0⟩,
  ⟨d70, .mv t69, none, 0, 0, 0⟩,
  ⟨d71, .mv t0, (some (p70, true)), 0, 0, 0⟩,
  ⟨d72, .call (.f 65) [(.c (.string (bsN [48, 48, 48, 48, 48, 48, 48, 48, 48, 48, 48, 48, 48, 48, 48, 48, 48, 48, 48, 48, 48, 48, 48, 48, 48, 48, 48, 48, 48, 48, 48, 48, 48, 48, 48, 48, 48, 48, 48, 48, 48, 48, 48, 48, 48, 48, 48, 48, 48, 48, 48, 48, 48, 48, 48, 48, 48, 48, 48, 48, 48, 48, 48, 48]))), t71], (some (p70, true)), 1, 0, 0⟩,
  ⟨d73, .pick t70 t72 (.c (.bool false)), none, 0, 0, 0⟩,
  ⟨d67, .mv t73, none, 0, 0, 0⟩])
 (.cond t67
 (.seq (.reg false [⟨d74, .mv t7, none, 0, 0, 0⟩,
  ⟨d75, .slice 0 0 0 (.c (.string (bsN [48, 48, 48, 48, 48, 48, 48, 48, 48, 48, 48, 48, 48, 48, 48, 48, 48, 48, 48, 48, 48, 48, 48, 48, 48, 48, 48, 48, 48, 48, 48, 48, 48, 48, 48, 48, 48, 48, 48, 48, 48, 48, 48, 48, 48, 48, 48, 48, 48, 48, 48, 48, 48, 48, 48, 48, 48, 48, 48, 48, 48, 48, 48, 48]))) none (some t74) none, none, 0, 0, 0⟩,
  ⟨d4, .mv t75, none, 0, 0, 0⟩])
 .ret)
 (.seq (.reg false [⟨d77, .mv t7, none, 0, 0, 0⟩,
  ⟨d78, .bin .leq .scalar t77 (.c (.int .i64 (128))), none, 0, 0, 0⟩,
  ⟨d79, .mv t78, none, 0, 0, 0⟩,
  ⟨d80, .mv t0, (some (p79, true)), 0, 0, 0⟩,
  ⟨d81, .call (.f 65) [(.c (.string (bsN [61, 61, 61, 61, 61, 61, 61, 61, 61, 61, 61, 61, 61, 61, 61, 61, 61, 61, 61, 61, 61, 61, 61, 61, 61, 61, 61, 61, 61, 61, 61, 61, 61, 61, 61, 61, 61, 61, 61, 61, 61, 61, 61, 61, 61, 61, 61, 61, 61, 61, 61, 61, 61, 61, 61, 61, 61, 61, 61, 61, 61, 61, 61, 61, 61, 61, 61, 61, 61, 61, 61, 61, 61, 61, 61, 61, 61, 61, 61, 61, 61, 61, 61, 61, 61, 61, 61, 61, 61, 61, 61, 61, 61, 61, 61, 61, 61, 61, 61, 61, 61, 61, 61, 61, 61, 61, 61, 61, 61, 61, 61, 61, 61, 61, 61, 61, 61, 61, 61, 61, 61, 61, 61, 61, 61, 61, 61, 61]))), t80], (some (p79, true)), 1, 0, 0⟩,
  ⟨d82, .pick t79 t81 (.c (.bool false)), none, 0, 0, 0⟩,
  ⟨d76, .mv t82, none, 0, 0, 0⟩])
 (.cond t76
 (.seq (.reg false [⟨d83, .mv t7, none, 0, 0, 0⟩,
  ⟨d84, .slice 0 0 0 (.c (.string (bsN [61, 61, 61, 61, 61, 61, 61, 61, 61, 61, 61, 61, 61, 61, 61, 61, 61, 61, 61, 61, 61, 61, 61, 61, 61, 61, 61, 61, 61, 61, 61, 61, 61, 61, 61, 61, 61, 61, 61, 61, 61, 61, 61, 61, 61, 61, 61, 61, 61, 61, 61, 61, 61, 61, 61, 61, 61, 61, 61, 61, 61, 61, 61, 61, 61, 61, 61, 61, 61, 61, 61, 61, 61, 61, 61, 61, 61, 61, 61, 61, 61, 61, 61, 61, 61, 61, 61, 61, 61, 61, 61, 61, 61, 61, 61, 61, 61, 61, 61, 61, 61, 61, 61, 61, 61, 61, 61, 61, 61, 61, 61, 61, 61, 61, 61, 61, 61, 61, 61, 61, 61, 61, 61, 61, 61, 61, 61, 61]))) none (some t83) none, none, 0, 0, 0⟩,
  ⟨d4, .mv t84, none, 0, 0, 0⟩])
 .ret)
 (.seq (.reg false [⟨d86, .mv t7, none, 0, 0, 0⟩,
  ⟨d87, .bin .leq .scalar t86 (.c (.int .i64 (64))), none, 0, 0, 0⟩,
  ⟨d88, .mv t87, none, 0, 0, 0⟩,
  ⟨d89, .mv t0, (some (p88, true)), 0, 0, 0⟩,
  ⟨d90, .call (.f 65) [(.c (.string (bsN [9, 9, 9, 9, 9, 9, 9, 9, 9, 9, 9, 9, 9, 9, 9, 9, 9, 9, 9, 9, 9, 9, 9, 9, 9, 9, 9, 9, 9, 9, 9, 9, 9, 9, 9, 9, 9, 9, 9, 9, 9, 9, 9, 9, 9, 9, 9, 9, 9, 9, 9, 9, 9, 9, 9, 9, 9, 9, 9, 9, 9, 9, 9, 9]))), t89], (some (p88, true)), 1, 0, 0⟩,
  ⟨d91, .pick t88 t90 (.c (.bool false)), none, 0, 0, 0⟩,
  ⟨d85, .mv t91, none, 0, 0, 0⟩])
 (.cond t85
 (.seq (.reg false [⟨d92, .mv t7, none, 0, 0, 0⟩,
  ⟨d93, .slice 0 0 0 (.c (.string (bsN [9, 9, 9, 9, 9, 9, 9, 9, 9, 9, 9, 9, 9, 9, 9, 9, 9, 9, 9, 9, 9, 9, 9, 9, 9, 9, 9, 9, 9, 9, 9, 9, 9, 9, 9, 9, 9, 9, 9, 9, 9, 9, 9, 9, 9, 9, 9, 9, 9, 9, 9, 9, 9, 9, 9, 9, 9, 9, 9, 9, 9, 9, 9, 9]))) none (some t92) none, none, 0, 0, 0⟩,
  ⟨d4, .mv t93, none, 0, 0, 0⟩])
 .ret)
 .skip)))))))))))
 .skip))))
 (.seq (.reg false [⟨d94, .mv t7, none, 0, 0, 0⟩,
  ⟨d8, .mv t94, none, 0, 0, 0⟩])
 (.seq (.seq (.reg false [⟨d95, .mv t7, none, 0, 0, 0⟩,
  ⟨d96, .bin .gtr .scalar t95 (.c (.int .i64 (8192))), none, 0, 0, 0⟩])
 (.cond t96
 (.seq (.reg false [⟨d97, .mv t0, none, 0, 0, 0⟩,
  ⟨d98, .len 0 t97, none, 1, 0, 0⟩,
  ⟨d99, .bin .quo .scalar (.c (.int .i64 (8192))) t98, none, 0, 0, 0⟩,
  ⟨d100, .mv t0, none, 0, 0, 0⟩,
  ⟨d101, .len 0 t100, none, 1, 0, 0⟩,
  ⟨d102, .bin .mul .scalar t99 t101, none, 0, 0, 0⟩,
  ⟨d8, .mv t102, none, 0, 0, 0⟩])
 (.seq (.reg false [⟨d103, .mv t8, none, 0, 0, 0⟩,
  ⟨d104, .bin .eql .scalar t103 (.c (.int .i64 (0))), none, 0, 0, 0⟩])
 (.cond t104
 (.reg false [⟨d105, .mv t0, none, 0, 0, 0⟩,
  ⟨d106, .len 0 t105, none, 1, 0, 0⟩,
  ⟨d8, .mv t106, none, 0, 0, 0⟩])
 .skip)))
 .skip))
 (.seq (.reg false [⟨d9, .alloc [(.pointer none), (.slice none 0 0)], none, 2, 0, 0⟩])
 (.seq (.reg false [⟨d107, .mv t7, none, 0, 0, 0⟩,
  ⟨d108, .call (.f 66) [t9, t107], none, 1, 0, 0⟩])
 (.seq (.reg false [⟨d109, .mv t0, none, 0, 0, 0⟩,
  ⟨d110, .call (.f 67) [t9, t109], none, 1, 0, 0⟩])
 (.seq (.block 3 (.loop (.seq (.seq (.reg false [⟨d111, .call (.f 68) [t9], none, 1, 0, 0⟩,
  ⟨d112, .mv t7, none, 0, 0, 0⟩,
  ⟨d113, .bin .lss .scalar t111 t112, none, 0, 0, 0⟩])
 (.cond t113
 .skip
 (.exit 3)))
 (.block 4 (.seq (.reg false [⟨d114, .mv t7, none, 0, 0, 0⟩,
  ⟨d115, .call (.f 68) [t9], none, 1, 0, 0⟩,
  ⟨d116, .bin .sub .scalar t114 t115, none, 0, 0, 0⟩,
  ⟨d117, .call (.f 68) [t9], none, 1, 0, 0⟩,
  ⟨d118, .mv t8, none, 0, 0, 0⟩,
  ⟨d119, .minmax false [t116, t117, t118], none, 0, 0, 0⟩,
  ⟨d10, .mv t119, none, 0, 0, 0⟩])
 (.reg false [⟨d120, .call (.f 69) [t9], none, 1, 0, 0⟩,
  ⟨d121, .mv t10, none, 0, 0, 0⟩,
  ⟨d122, .slice 0 0 0 t120 none (some t121) none, none, 0, 0, 0⟩,
  ⟨d123, .call (.f 67) [t9, t122], none, 1, 0, 0⟩]))))))
 (.seq (.reg false [⟨d124, .call (.f 69) [t9], none, 1, 0, 0⟩,
  ⟨d4, .mv t124, none, 0, 0, 0⟩])
 .ret)))))))))))))))⟩
theorem ok30 : GoodFn Tryz.prog kt (30, ir30) := ⟨Tryz.f30, fun _ _ => false, Tryz.func30, by kernel_rfl⟩
/- slices.DeleteFunc[[]string,string] -/
def ir132 : IFn := ⟨2, [.t p4],
 (.seq (.reg false [⟨d4, .mv (.c (.slice none 0 0)), none, 0, 0, 0⟩])
 (.seq (.reg false [⟨d8, .mv t0, none, 0, 0, 0⟩,
  ⟨d9, .mv t1, none, 0, 0, 0⟩,
  ⟨d10, .call (.f 179) [t8, t9], none, 1, 0, 0⟩,
  ⟨d5, .mv t10, none, 0, 0, 0⟩])
 (.seq (.seq (.reg false [⟨d11, .mv t5, none, 0, 0, 0⟩,
  ⟨d12, .bin .eql .scalar t11 (.c (.int .i64 (-1))), none, 0, 0, 0⟩])
 (.cond t12
 (.seq (.reg false [⟨d13, .mv t0, none, 0, 0, 0⟩,
  ⟨d4, .mv t13, none, 0, 0, 0⟩])
 .ret)
 .skip))
 (.seq (.seq (.reg false [⟨d14, .mv t5, none, 0, 0, 0⟩,
  ⟨d15, .bin .add .scalar t14 (.c (.int .i64 (1))), none, 0, 0, 0⟩,
  ⟨d6, .mv t15, none, 0, 0, 0⟩])
 (.block 0 (.loop (.seq (.seq (.reg false [⟨d16, .mv t6, none, 0, 0, 0⟩,
  ⟨d17, .mv t0, none, 0, 0, 0⟩,
  ⟨d18, .len 1 t17, none, 1, 0, 0⟩,
  ⟨d19, .bin .lss .scalar t16 t18, none, 0, 0, 0⟩])
 (.cond t19
 .skip
 (.exit 0)))
 (.seq (.block 1 (.seq (.reg false [⟨d22, .mv t0, none, 0, 0, 0⟩,
  ⟨d23, .mv t6, none, 0, 0, 0⟩,
  ⟨d24, .iaddr none 1 t22 t23, none, 0, 0, 0⟩,
  ⟨d25, .load false 1 t24, none, 1, 0, 0⟩,
  ⟨d7, .mv t25, none, 0, 0, 0⟩])
 (.seq (.reg false [⟨d26, .mv t1, none, 0, 0, 0⟩,
  ⟨d27, .mv t7, none, 0, 0, 0⟩,
  ⟨d28, .call t26 [t27], none, 3, 0, 0⟩,
  ⟨d29, .un .not t28, none, 0, 0, 0⟩])
 (.cond t29
 (.seq (.reg false [⟨d30, .mv t0, none, 0, 0, 0⟩,
  ⟨d31, .mv t5, none, 0, 0, 0⟩,
  ⟨d32, .mv t7, none, 0, 0, 0⟩,
  ⟨d33, .iaddr none 1 t30 t31, none, 0, 0, 0⟩,
  ⟨none, .store 1 t33 t32, none, 3, 0, 0⟩])
 (.reg false [⟨d34, .mv t5, none, 0, 0, 0⟩,
  ⟨d35, .bin .add .scalar t34 (.c (.int .i64 (1))), none, 0, 0, 0⟩,
  ⟨d5, .mv t35, none, 0, 0, 0⟩]))
 .skip))))
 (.reg false [⟨d20, .mv t6, none, 0, 0, 0⟩,
  ⟨d21, .bin .add .scalar t20 (.c (.int .i64 (1))), none, 0, 0, 0⟩,
  ⟨d6, .mv t21, none, 0, 0, 0⟩]))))))
 (.seq (.reg false [⟨d36, .mv t0, none, 0, 0, 0⟩,
  ⟨d37, .mv t5, none, 0, 0, 0⟩,
  ⟨d38, .slice 2 0 1 t36 (some t37) none none, none, 0, 0, 0⟩,
  ⟨none, .clear 1 (.string (bsN [])) t38, none, 3, 0, 0⟩])
 (.seq (.reg false [⟨d39, .mv t0, none, 0, 0, 0⟩,
  ⟨d40, .mv t5, none, 0, 0, 0⟩,
  ⟨d41, .slice 2 0 1 t39 none (some t40) none, none, 0, 0, 0⟩,
  ⟨d4, .mv t41, none, 0, 0, 0⟩])
 .ret))))))⟩
theorem ok132 : GoodFn Tryz.prog kt (132, ir132) := ⟨Tryz.f132, fun _ _ => false, Tryz.func132, by kernel_rfl⟩
/- strconv.Atoi -/
def ir31 : IFn := ⟨1, [.t p2, .t p3],
 (.seq (.reg false [⟨d2, .mv (.c (.int .i64 (0))), none, 0, 0, 0⟩,
  ⟨d3, .mv (.c .nilIface), none, 0, 0, 0⟩])
 (.seq (.reg false [⟨d7, .mv t0, none, 0, 0, 0⟩,
  ⟨d8, .call (.f 70) [t7], none, 1, 0, 0⟩,
  ⟨d6, .mv t8, none, 0, 0, 0⟩,
  ⟨d9, .extract 0 t6, none, 0, 0, 0⟩,
  ⟨d10, .extract 1 t6, none, 0, 0, 0⟩,
  ⟨d4, .mv t9, none, 0, 0, 0⟩,
  ⟨d5, .mv t10, none, 0, 0, 0⟩])
 (.seq (.seq (.reg false [⟨d11, .mv t5, none, 0, 0, 0⟩,
  ⟨d12, .bin .neq (.ref .iface) t11 (.c .nilIface), none, 0, 0, 0⟩])
 (.cond t12
 (.seq (.reg false [⟨d13, .mv t4, none, 0, 0, 0⟩,
  ⟨d14, .mv t0, none, 0, 0, 0⟩,
  ⟨d15, .mv t5, none, 0, 0, 0⟩,
  ⟨d16, .call (.f 71) [(.c (.string (bsN [65, 116, 111, 105]))), t14, (.c (.int .i64 (0))), (.c (.int .i64 (0))), t15], none, 1, 0, 0⟩,
  ⟨d2, .mv t13, none, 0, 0, 0⟩,
  ⟨d3, .mv t16, none, 0, 0, 0⟩])
 .ret)
 .skip))
 (.seq (.reg false [⟨d17, .mv t4, none, 0, 0, 0⟩,
  ⟨d2, .mv t17, none, 0, 0, 0⟩,
  ⟨d3, .mv (.c .nilIface), none, 0, 0, 0⟩])
 .ret))))⟩
theorem ok31 : GoodFn Tryz.prog kt (31, ir31) := ⟨Tryz.f31, fun _ _ => false, Tryz.func31, by kernel_rfl⟩
/- firkin/mark.get$1 -/
def ir81 : IFn := ⟨3, [.t p3],
 (.seq (.reg false [⟨d3, .mv (.c (.int .i64 (0))), none, 0, 0, 0⟩])
 (.seq (.reg false [⟨d4, .mv (.c (.int .i64 (0))), none, 0, 0, 0⟩])
 (.seq (.reg false [⟨d6, .load false 1 t0, none, 1, 0, 0⟩,
  ⟨d7, .load false 1 t1, none, 1, 0, 0⟩,
  ⟨d8, .call (.f 82) [t6, t7, (.c (.int .i64 (0))), (.c (.int .i64 (-1)))], none, 3, 0, 0⟩,
  ⟨d5, .mv t8, none, 0, 0, 0⟩,
  ⟨d9, .extract 0 t5, none, 0, 0, 0⟩,
  ⟨d10, .extract 1 t5, none, 0, 0, 0⟩,
  ⟨none, .store 1 t2 t9, none, 3, 0, 0⟩,
  ⟨d4, .mv t10, none, 0, 0, 0⟩])
 (.seq (.reg false [⟨d11, .mv t4, none, 0, 0, 0⟩,
  ⟨d3, .mv t11, none, 0, 0, 0⟩])
 .ret))))⟩
theorem ok81 : GoodFn Tryz.prog kt (81, ir81) := ⟨Tryz.f81, fun _ _ => false, Tryz.func81, by kernel_rfl⟩
/- (*firkin/world.World).Get$1 -/
def ir134 : IFn := ⟨5, [.t p5],
 (.seq (.reg false [⟨d5, .mv (.c (.int .i64 (0))), none, 0, 0, 0⟩])
 (.seq (.reg true [⟨d9, .load false 1 t0, none, 1, 0, 0⟩,
  ⟨d10, .nilCheck t9, none, 0, 0, 0⟩,
  ⟨d11, .faddr 0 t10, none, 0, 0, 0⟩,
  ⟨d12, .load false 1 t11, none, 1, 0, 0⟩,
  ⟨d13, .load false 1 t1, none, 1, 0, 0⟩,
  ⟨d14, .lookup (.one .s) (.slice none 0 0) true t12 t13, none, 1, 0, 0⟩,
  ⟨d8, .mv t14, none, 0, 0, 0⟩,
  ⟨d15, .extract 0 t8, none, 0, 0, 0⟩,
  ⟨d16, .extract 1 t8, none, 0, 0, 0⟩,
  ⟨d6, .mv t15, none, 0, 0, 0⟩,
  ⟨d7, .mv t16, none, 0, 0, 0⟩])
 (.seq (.block 0 (.seq (.reg false [⟨d25, .mv t7, none, 0, 0, 0⟩,
  ⟨d26, .un .not t25, none, 0, 0, 0⟩,
  ⟨d24, .mv t26, none, 0, 0, 0⟩])
 (.cond t24
 (.seq (.reg false [⟨d5, .mv (.c (.int .i64 (5))), none, 0, 0, 0⟩])
 .ret)
 (.seq (.reg false [⟨d28, .load false 1 t2, none, 1, 0, 0⟩,
  ⟨d29, .mv t6, none, 0, 0, 0⟩,
  ⟨d30, .len 1 t29, none, 1, 0, 0⟩,
  ⟨d31, .bin .gtr .scalar t28 t30, none, 0, 0, 0⟩,
  ⟨d32, .mv t31, none, 0, 0, 0⟩,
  ⟨d33, .load false 1 t3, (some (p32, false)), 1, 0, 0⟩,
  ⟨d34, .mv t6, (some (p32, false)), 0, 0, 0⟩,
  ⟨d35, .len 1 t34, (some (p32, false)), 1, 0, 0⟩,
  ⟨d36, .load false 1 t2, (some (p32, false)), 1, 0, 0⟩,
  ⟨d37, .bin .sub .scalar t35 t36, (some (p32, false)), 0, 0, 0⟩,
  ⟨d38, .bin .gtr .scalar t33 t37, (some (p32, false)), 0, 0, 0⟩,
  ⟨d39, .pick t32 (.c (.bool true)) t38, none, 0, 0, 0⟩,
  ⟨d27, .mv t39, none, 0, 0, 0⟩])
 (.cond t27
 (.seq (.reg false [⟨d5, .mv (.c (.int .i64 (1))), none, 0, 0, 0⟩])
 .ret)
 (.seq (.reg false [⟨d41, .load false 1 t3, none, 1, 0, 0⟩,
  ⟨d42, .bin .lss .scalar t41 (.c (.int .i64 (0))), none, 0, 0, 0⟩,
  ⟨d40, .mv t42, none, 0, 0, 0⟩])
 (.cond t40
 (.reg false [⟨d43, .mv t6, none, 0, 0, 0⟩,
  ⟨d44, .load false 1 t2, none, 1, 0, 0⟩,
  ⟨d45, .slice 2 0 1 t43 (some t44) none none, none, 0, 0, 0⟩,
  ⟨d46, .call (.f 135) [t45], none, 1, 0, 0⟩,
  ⟨none, .store 1 t4 t46, none, 3, 0, 0⟩])
 (.reg false [⟨d17, .mv t6, none, 0, 0, 0⟩,
  ⟨d18, .load false 1 t2, none, 1, 0, 0⟩,
  ⟨d19, .load false 1 t2, none, 1, 0, 0⟩,
  ⟨d20, .load false 1 t3, none, 1, 0, 0⟩,
  ⟨d21, .bin .add .scalar t19 t20, none, 0, 0, 0⟩,
  ⟨d22, .slice 2 0 1 t17 (some t18) (some t21) none, none, 0, 0, 0⟩,
  ⟨d23, .call (.f 135) [t22], none, 1, 0, 0⟩,
  ⟨none, .store 1 t4 t23, none, 3, 0, 0⟩]))))))))
 (.seq (.reg false [⟨d5, .mv (.c (.int .i64 (0))), none, 0, 0, 0⟩])
 .ret))))⟩
theorem ok134 : GoodFn Tryz.prog kt (134, ir134) := ⟨Tryz.f134, fun _ _ => false, Tryz.func134, by kernel_rfl⟩
/- firkin/frame.Get -/
def ir83 : IFn := ⟨1, [.t p2, .t p3, .t p4],
 (.seq (.reg false [⟨d2, .mv (.c (.slice none 0 0)), none, 0, 0, 0⟩,
  ⟨d3, .mv (.c (.int .i64 (0))), none, 0, 0, 0⟩,
  ⟨d4, .mv (.c (.int .i64 (0))), none, 0, 0, 0⟩])
 (.seq (.reg false [⟨d9, .mv t0, none, 0, 0, 0⟩,
  ⟨d10, .call (.f 84) [t9], none, 3, 0, 0⟩,
  ⟨d5, .mv t10, none, 0, 0, 0⟩])
 (.seq (.reg false [⟨d11, .mv t5, none, 0, 0, 0⟩,
  ⟨d12, .call (.f 85) [t11, (.c (.int .i64 (1048577)))], none, 3, 0, 0⟩,
  ⟨d6, .mv t12, none, 0, 0, 0⟩])
 (.seq (.reg false [⟨d13, .mv t5, none, 0, 0, 0⟩,
  ⟨d14, .call (.f 136) [t13, (.c (.int .i64 (4)))], none, 3, 0, 0⟩,
  ⟨d7, .mv t14, none, 0, 0, 0⟩])
 (.seq (.reg false [⟨d15, .mv t5, none, 0, 0, 0⟩,
  ⟨d16, .mv t6, none, 0, 0, 0⟩,
  ⟨d17, .call (.f 136) [t15, t16], none, 3, 0, 0⟩,
  ⟨d8, .mv t17, none, 0, 0, 0⟩])
 (.seq (.block 0 (.seq (.reg false [⟨d19, .mv t5, none, 0, 0, 0⟩,
  ⟨d20, .call (.f 86) [t19], none, 1, 0, 0⟩,
  ⟨d21, .un .not t20, none, 0, 0, 0⟩,
  ⟨d18, .mv t21, none, 0, 0, 0⟩])
 (.cond t18
 (.seq (.reg false [⟨d2, .mv (.c (.slice none 0 0)), none, 0, 0, 0⟩,
  ⟨d3, .mv (.c (.int .i64 (0))), none, 0, 0, 0⟩,
  ⟨d4, .mv (.c (.int .i64 (2))), none, 0, 0, 0⟩])
 .ret)
 (.seq (.reg true [⟨d23, .mv t7, none, 0, 0, 0⟩,
  ⟨d24, .convStr false t23, none, 1, 0, 0⟩,
  ⟨d25, .mv t8, none, 0, 0, 0⟩,
  ⟨d26, .call (.f 137) [t25], none, 1, 0, 0⟩,
  ⟨d27, .convStr false t26, none, 1, 0, 0⟩,
  ⟨d28, .bin .neq .scalar t24 t27, none, 0, 0, 0⟩,
  ⟨d22, .mv t28, none, 0, 0, 0⟩])
 (.cond t22
 (.seq (.reg false [⟨d2, .mv (.c (.slice none 0 0)), none, 0, 0, 0⟩,
  ⟨d3, .mv (.c (.int .i64 (0))), none, 0, 0, 0⟩,
  ⟨d4, .mv (.c (.int .i64 (13))), none, 0, 0, 0⟩])
 .ret)
 .skip)))))
 (.seq (.reg false [⟨d29, .mv t8, none, 0, 0, 0⟩,
  ⟨d30, .mv t0, none, 0, 0, 0⟩,
  ⟨d31, .len 1 t30, none, 1, 0, 0⟩,
  ⟨d32, .mv t5, none, 0, 0, 0⟩,
  ⟨d33, .call (.f 138) [t32], none, 1, 0, 0⟩,
  ⟨d34, .bin .sub .scalar t31 t33, none, 0, 0, 0⟩,
  ⟨d2, .mv t29, none, 0, 0, 0⟩,
  ⟨d3, .mv t34, none, 0, 0, 0⟩,
  ⟨d4, .mv (.c (.int .i64 (0))), none, 0, 0, 0⟩])
 .ret)))))))⟩
theorem ok83 : GoodFn Tryz.prog kt (83, ir83) := ⟨Tryz.f83, fun _ _ => false, Tryz.func83, by kernel_rfl⟩
/- firkin/vint.size -/
def ir181 : IFn := ⟨1, [.t p2],
 (.seq (.reg false [⟨d2, .mv (.c (.int .i64 (0))), none, 0, 0, 0⟩])
 (.seq (.seq (.reg false [⟨d5, .mv t0, none, 0, 0, 0⟩,
  ⟨d6, .len 1 t5, none, 1, 0, 0⟩,
  ⟨d7, .mv (.c (.int .i64 (0))), none, 0, 0, 0⟩])
 (.block 0 (.loop (.seq (.reg false [⟨d8, .bin .lss .scalar t7 t6, none, 0, 0, 0⟩])
 (.seq (.cond t8
 .skip
 (.exit 0))
 (.seq (.block 1 (.seq (.reg false [⟨d9, .mv t7, none, 0, 0, 0⟩,
  ⟨d10, .iaddr none 1 t5 t7, none, 0, 0, 0⟩,
  ⟨d11, .load false 1 t10, none, 1, 0, 0⟩,
  ⟨d3, .mv t9, none, 0, 0, 0⟩,
  ⟨d4, .mv t11, none, 0, 0, 0⟩])
 (.block 2 (.seq (.seq (.reg false [⟨d13, .mv t3, none, 0, 0, 0⟩,
  ⟨d14, .bin .eql .scalar t13 (.c (.int .i64 (9))), none, 0, 0, 0⟩,
  ⟨d15, .mv t14, none, 0, 0, 0⟩,
  ⟨d16, .mv t4, (some (p15, true)), 0, 0, 0⟩,
  ⟨d17, .bin .gtr .scalar t16 (.c (.int .u8 (1))), (some (p15, true)), 0, 0, 0⟩,
  ⟨d18, .pick t15 t17 (.c (.bool false)), none, 0, 0, 0⟩,
  ⟨d12, .mv t18, none, 0, 0, 0⟩])
 (.cond t12
 .skip
 (.reg false [⟨d19, .mv t3, none, 0, 0, 0⟩,
  ⟨d20, .bin .gtr .scalar t19 (.c (.int .i64 (0))), none, 0, 0, 0⟩,
  ⟨d21, .mv t20, none, 0, 0, 0⟩,
  ⟨d22, .mv t4, (some (p21, true)), 0, 0, 0⟩,
  ⟨d23, .bin .eql .scalar t22 (.c (.int .u8 (0))), (some (p21, true)), 0, 0, 0⟩,
  ⟨d24, .pick t21 t23 (.c (.bool false)), none, 0, 0, 0⟩,
  ⟨d12, .mv t24, none, 0, 0, 0⟩])))
 (.cond t12
 (.seq (.reg false [⟨d2, .mv (.c (.int .i64 (0))), none, 0, 0, 0⟩])
 .ret)
 (.seq (.reg false [⟨d26, .mv t4, none, 0, 0, 0⟩,
  ⟨d27, .bin .lss .scalar t26 (.c (.int .u8 (128))), none, 0, 0, 0⟩,
  ⟨d25, .mv t27, none, 0, 0, 0⟩])
 (.cond t25
 (.seq (.reg false [⟨d28, .mv t3, none, 0, 0, 0⟩,
  ⟨d29, .bin .add .scalar t28 (.c (.int .i64 (1))), none, 0, 0, 0⟩,
  ⟨d2, .mv t29, none, 0, 0, 0⟩])
 .ret)
 (.seq (.reg false [⟨d31, .mv t3, none, 0, 0, 0⟩,
  ⟨d32, .bin .eql .scalar t31 (.c (.int .i64 (9))), none, 0, 0, 0⟩,
  ⟨d30, .mv t32, none, 0, 0, 0⟩])
 (.cond t30
 (.seq (.reg false [⟨d2, .mv (.c (.int .i64 (0))), none, 0, 0, 0⟩])
 .ret)
 .skip)))))))))
 (.reg false [⟨d33, .bin .add .scalar t7 (.c (.int .i64 (1))), none, 0, 0, 0⟩,
  ⟨d7, .mv t33, none, 0, 0, 0⟩])))))))
 (.seq (.reg false [⟨d2, .mv (.c (.int .i64 (0))), none, 0, 0, 0⟩])
 .ret)))⟩
theorem ok181 : GoodFn Tryz.prog kt (181, ir181) := ⟨Tryz.f181, fun _ _ => false, Tryz.func181, by kernel_rfl⟩
/- firkin/firkinref33.Small -/
def ir15 : IFn := ⟨1, [.t p2],
 (.seq (.reg false [⟨d1, .box t0, none, 3, 0, 0⟩,
  ⟨d2, .mv (.c (.bool false)), none, 0, 0, 0⟩])
 (.seq (.seq (.reg false [⟨d3, .mv (.c (.int .i64 (0))), none, 0, 0, 0⟩])
 (.block 0 (.loop (.seq (.seq (.reg false [⟨d6, .mv t3, none, 0, 0, 0⟩,
  ⟨d7, .faddr 2 t1, none, 0, 0, 0⟩,
  ⟨d8, .load false 1 t7, none, 1, 0, 0⟩,
  ⟨d9, .len 1 t8, none, 1, 0, 0⟩,
  ⟨d10, .bin .lss .scalar t6 t9, none, 0, 0, 0⟩,
  ⟨d11, .mv t10, none, 0, 0, 0⟩,
  ⟨d12, .mv t3, (some (p11, true)), 0, 0, 0⟩,
  ⟨d13, .bin .lss .scalar t12 (.c (.int .i64 (12))), (some (p11, true)), 0, 0, 0⟩,
  ⟨d14, .pick t11 t13 (.c (.bool false)), none, 0, 0, 0⟩])
 (.cond t14
 .skip
 (.exit 0)))
 (.seq (.block 1 (.seq (.reg false [⟨d17, .faddr 2 t1, none, 0, 0, 0⟩,
  ⟨d18, .load false 1 t17, none, 1, 0, 0⟩,
  ⟨d19, .mv t3, none, 0, 0, 0⟩,
  ⟨d20, .iaddr none 3 t18 t19, none, 0, 0, 0⟩,
  ⟨d21, .load true 3 t20, none, 1, 0, 0⟩,
  ⟨d4, .alloc [(.string (bsN [])), (.slice none 0 0), (.slice none 0 0)], none, 2, 0, 0⟩,
  ⟨none, .store 3 t4 t21, none, 3, 0, 0⟩])
 (.seq (.seq (.reg false [⟨d22, .faddr 0 t4, none, 0, 0, 0⟩,
  ⟨d23, .load false 1 t22, none, 1, 0, 0⟩,
  ⟨d24, .len 0 t23, none, 1, 0, 0⟩,
  ⟨d25, .bin .gtr .scalar t24 (.c (.int .i64 (100))), none, 0, 0, 0⟩,
  ⟨d26, .mv t25, none, 0, 0, 0⟩,
  ⟨d27, .faddr 1 t4, (some (p26, false)), 0, 0, 0⟩,
  ⟨d28, .load false 1 t27, (some (p26, false)), 1, 0, 0⟩,
  ⟨d29, .len 1 t28, (some (p26, false)), 1, 0, 0⟩,
  ⟨d30, .bin .gtr .scalar t29 (.c (.int .i64 (15))), (some (p26, false)), 0, 0, 0⟩,
  ⟨d31, .pick t26 (.c (.bool true)) t30, none, 0, 0, 0⟩,
  ⟨d32, .mv t31, none, 0, 0, 0⟩,
  ⟨d33, .faddr 2 t4, (some (p32, false)), 0, 0, 0⟩,
  ⟨d34, .load false 1 t33, (some (p32, false)), 1, 0, 0⟩,
  ⟨d35, .len 1 t34, (some (p32, false)), 1, 0, 0⟩,
  ⟨d36, .bin .gtr .scalar t35 (.c (.int .i64 (30))), (some (p32, false)), 0, 0, 0⟩,
  ⟨d37, .pick t32 (.c (.bool true)) t36, none, 0, 0, 0⟩])
 (.cond t37
 (.seq (.reg false [⟨d2, .mv (.c (.bool false)), none, 0, 0, 0⟩])
 .ret)
 .skip))
 (.seq (.reg false [⟨d5, .mv (.c (.int .i64 (0))), none, 0, 0, 0⟩])
 (.block 2 (.loop (.seq (.seq (.reg false [⟨d38, .mv t5, none, 0, 0, 0⟩,
  ⟨d39, .faddr 1 t4, none, 0, 0, 0⟩,
  ⟨d40, .load false 1 t39, none, 1, 0, 0⟩,
  ⟨d41, .len 1 t40, none, 1, 0, 0⟩,
  ⟨d42, .bin .lss .scalar t38 t41, none, 0, 0, 0⟩])
 (.cond t42
 .skip
 (.exit 2)))
 (.seq (.block 3 (.seq (.reg false [⟨d45, .faddr 1 t4, none, 0, 0, 0⟩,
  ⟨d46, .load false 1 t45, none, 1, 0, 0⟩,
  ⟨d47, .mv t5, none, 0, 0, 0⟩,
  ⟨d48, .iaddr none 3 t46 t47, none, 0, 0, 0⟩,
  ⟨d49, .faddr 0 t48, none, 0, 0, 0⟩,
  ⟨d50, .load false 1 t49, none, 1, 0, 0⟩,
  ⟨d51, .len 0 t50, none, 1, 0, 0⟩,
  ⟨d52, .bin .gtr .scalar t51 (.c (.int .i64 (100))), none, 0, 0, 0⟩])
 (.cond t52
 (.seq (.reg false [⟨d2, .mv (.c (.bool false)), none, 0, 0, 0⟩])
 .ret)
 .skip)))
 (.reg false [⟨d43, .mv t5, none, 0, 0, 0⟩,
  ⟨d44, .bin .add .scalar t43 (.c (.int .i64 (1))), none, 0, 0, 0⟩,
  ⟨d5, .mv t44, none, 0, 0, 0⟩])))))))))
 (.reg false [⟨d15, .mv t3, none, 0, 0, 0⟩,
  ⟨d16, .bin .add .scalar t15 (.c (.int .i64 (1))), none, 0, 0, 0⟩,
  ⟨d3, .mv t16, none, 0, 0, 0⟩]))))))
 (.seq (.reg false [⟨d53, .faddr 2 t1, none, 0, 0, 0⟩,
  ⟨d54, .load false 1 t53, none, 1, 0, 0⟩,
  ⟨d55, .len 1 t54, none, 1, 0, 0⟩,
  ⟨d56, .bin .leq .scalar t55 (.c (.int .i64 (10))), none, 0, 0, 0⟩,
  ⟨d2, .mv t56, none, 0, 0, 0⟩])
 .ret)))⟩
theorem ok15 : GoodFn Tryz.prog kt (15, ir15) := ⟨Tryz.f15, fun _ _ => false, Tryz.func15, by kernel_rfl⟩
end Go.Proofs.YtjlaccjneaomgaaGreatDoor
