/- Resolved functions, part 4. Written by program. -/
import Derived.Test.YtjlaccjneaomgaaGreatDoorFkT0
namespace Go.Proofs.YtjlaccjneaomgaaGreatDoor
open Go Go.Fk
/- firkin/mark.able -/
def ir35 : IFn := ⟨2, [.t p4],
 (.seq (.reg false [⟨d4, .mv (.c (.int .i64 (0))), none, 0, 0, 0⟩])
 (.seq (.block 0 (.seq (.reg false [⟨d6, .mv t0, none, 0, 0, 0⟩,
  ⟨d7, .call (.f 77) [t6], none, 1, 0, 0⟩,
  ⟨d8, .un .not t7, none, 0, 0, 0⟩,
  ⟨d5, .mv t8, none, 0, 0, 0⟩])
 (.cond t5
 (.seq (.reg false [⟨d4, .mv (.c (.int .i64 (9))), none, 0, 0, 0⟩])
 .ret)
 (.seq (.reg false [⟨d10, .mv t1, none, 0, 0, 0⟩,
  ⟨d11, .bin .lss .scalar t10 (.c (.int .i64 (1))), none, 0, 0, 0⟩,
  ⟨d12, .mv t11, none, 0, 0, 0⟩,
  ⟨d13, .mv t1, (some (p12, false)), 0, 0, 0⟩,
  ⟨d14, .bin .gtr .scalar t13 (.c (.int .i64 (8))), (some (p12, false)), 0, 0, 0⟩,
  ⟨d15, .pick t12 (.c (.bool true)) t14, none, 0, 0, 0⟩,
  ⟨d9, .mv t15, none, 0, 0, 0⟩])
 (.cond t9
 (.seq (.reg false [⟨d4, .mv (.c (.int .i64 (1))), none, 0, 0, 0⟩])
 .ret)
 .skip)))))
 (.seq (.reg false [⟨d4, .mv (.c (.int .i64 (0))), none, 0, 0, 0⟩])
 .ret)))⟩
theorem ok35 : GoodFn Tryz.prog kt (35, ir35) := ⟨Tryz.f35, fun _ _ => false, Tryz.func35, by kernel_rfl⟩
/- firkin/manif.Put -/
def ir39 : IFn := ⟨1, [.t p2, .t p3],
 (.seq (.reg false [⟨d1, .box t0, none, 3, 0, 0⟩,
  ⟨d2, .mv (.c (.slice none 0 0)), none, 0, 0, 0⟩,
  ⟨d3, .mv (.c (.int .i64 (0))), none, 0, 0, 0⟩])
 (.seq (.seq (.reg false [⟨d10, .load true 3 t1, none, 1, 0, 0⟩,
  ⟨d11, .call (.f 89) [t10], none, 1, 0, 0⟩,
  ⟨d4, .mv t11, none, 0, 0, 0⟩])
 (.seq (.reg false [⟨d12, .mv t4, none, 0, 0, 0⟩,
  ⟨d13, .bin .neq .scalar t12 (.c (.int .i64 (0))), none, 0, 0, 0⟩])
 (.cond t13
 (.seq (.reg false [⟨d14, .mv t4, none, 0, 0, 0⟩,
  ⟨d2, .mv (.c (.slice none 0 0)), none, 0, 0, 0⟩,
  ⟨d3, .mv t14, none, 0, 0, 0⟩])
 .ret)
 .skip)))
 (.seq (.reg false [⟨d15, .faddr 0 t1, none, 0, 0, 0⟩,
  ⟨d16, .load false 1 t15, none, 1, 0, 0⟩,
  ⟨d17, .faddr 1 t1, none, 0, 0, 0⟩,
  ⟨d18, .load false 1 t17, none, 1, 0, 0⟩,
  ⟨d19, .faddr 2 t1, none, 0, 0, 0⟩,
  ⟨d20, .load false 1 t19, none, 1, 0, 0⟩,
  ⟨d21, .len 1 t20, none, 1, 0, 0⟩,
  ⟨d22, .lit 1 3 (.int .i64 (0)) [(0, t16), (1, t18), (2, t21)], none, 0, 0, 0⟩,
  ⟨d23, .call (.f 90) [t22], none, 1, 0, 0⟩,
  ⟨d5, .mv t23, none, 0, 0, 0⟩])
 (.seq (.seq (.reg false [⟨d24, .faddr 2 t1, none, 0, 0, 0⟩,
  ⟨d25, .load false 1 t24, none, 1, 0, 0⟩,
  ⟨d26, .len 1 t25, none, 1, 0, 0⟩,
  ⟨d27, .mv (.c (.int .i64 (0))), none, 0, 0, 0⟩])
 (.block 0 (.loop (.seq (.reg false [⟨d28, .bin .lss .scalar t27 t26, none, 0, 0, 0⟩])
 (.seq (.cond t28
 .skip
 (.exit 0))
 (.seq (.block 1 (.seq (.reg false [⟨d29, .iaddr none 3 t25 t27, none, 0, 0, 0⟩,
  ⟨d30, .load true 3 t29, none, 1, 0, 0⟩,
  ⟨d7, .alloc [(.string (bsN [])), (.slice none 0 0), (.slice none 0 0)], none, 2, 0, 0⟩,
  ⟨none, .store 3 t7 t30, none, 3, 0, 0⟩])
 (.seq (.reg true [⟨d31, .mv t5, none, 0, 0, 0⟩,
  ⟨d32, .faddr 0 t7, none, 0, 0, 0⟩,
  ⟨d33, .load false 1 t32, none, 1, 0, 0⟩,
  ⟨d34, .call (.f 92) [t33], none, 1, 0, 0⟩,
  ⟨d35, .faddr 1 t7, none, 0, 0, 0⟩,
  ⟨d36, .load false 1 t35, none, 1, 0, 0⟩,
  ⟨d37, .call (.f 93) [t36], none, 1, 0, 0⟩,
  ⟨d38, .faddr 2 t7, none, 0, 0, 0⟩,
  ⟨d39, .load false 1 t38, none, 1, 0, 0⟩,
  ⟨d40, .len 1 t39, none, 1, 0, 0⟩,
  ⟨d41, .lit 1 1 (.int .i64 (0)) [(0, t40)], none, 0, 0, 0⟩,
  ⟨d42, .call (.f 90) [t41], none, 1, 0, 0⟩,
  ⟨d43, .lit 1 4 (.slice none 0 0) [(0, t31), (1, t34), (2, t37), (3, t42)], none, 0, 0, 0⟩,
  ⟨d44, .call (.f 91) [t43], none, 1, 0, 0⟩,
  ⟨d5, .mv t44, none, 0, 0, 0⟩])
 (.seq (.reg false [⟨d45, .faddr 2 t7, none, 0, 0, 0⟩,
  ⟨d46, .load false 1 t45, none, 1, 0, 0⟩,
  ⟨d47, .len 1 t46, none, 1, 0, 0⟩,
  ⟨d48, .mv (.c (.int .i64 (0))), none, 0, 0, 0⟩])
 (.block 2 (.loop (.seq (.reg false [⟨d49, .bin .lss .scalar t48 t47, none, 0, 0, 0⟩])
 (.seq (.cond t49
 .skip
 (.exit 2))
 (.seq (.block 3 (.seq (.reg false [⟨d50, .iaddr none 6 t46 t48, none, 0, 0, 0⟩,
  ⟨d51, .load true 6 t50, none, 1, 0, 0⟩,
  ⟨d9, .alloc [(.int .i64 (0)), (.int .i64 (0)), (.int .i64 (0)), (.int .i64 (0)), (.int .i64 (0)), (.int .i64 (0))], none, 2, 0, 0⟩,
  ⟨none, .store 6 t9 t51, none, 3, 0, 0⟩])
 (.reg false [⟨d52, .mv t5, none, 0, 0, 0⟩,
  ⟨d53, .faddr 0 t9, none, 0, 0, 0⟩,
  ⟨d54, .load false 1 t53, none, 1, 0, 0⟩,
  ⟨d55, .faddr 1 t9, none, 0, 0, 0⟩,
  ⟨d56, .load false 1 t55, none, 1, 0, 0⟩,
  ⟨d57, .faddr 2 t9, none, 0, 0, 0⟩,
  ⟨d58, .load false 1 t57, none, 1, 0, 0⟩,
  ⟨d59, .faddr 3 t9, none, 0, 0, 0⟩,
  ⟨d60, .load false 1 t59, none, 1, 0, 0⟩,
  ⟨d61, .faddr 4 t9, none, 0, 0, 0⟩,
  ⟨d62, .load false 1 t61, none, 1, 0, 0⟩,
  ⟨d63, .faddr 5 t9, none, 0, 0, 0⟩,
  ⟨d64, .load false 1 t63, none, 1, 0, 0⟩,
  ⟨d65, .lit 1 6 (.int .i64 (0)) [(0, t54), (1, t56), (2, t58), (3, t60), (4, t62), (5, t64)], none, 0, 0, 0⟩,
  ⟨d66, .call (.f 90) [t65], none, 1, 0, 0⟩,
  ⟨d67, .append false 1 1 none t52 t66, none, 3, 0, 0⟩,
  ⟨d5, .mv t67, none, 0, 0, 0⟩])))
 (.reg false [⟨d68, .bin .add .scalar t48 (.c (.int .i64 (1))), none, 0, 0, 0⟩,
  ⟨d48, .mv t68, none, 0, 0, 0⟩]))))))))))
 (.reg false [⟨d69, .bin .add .scalar t27 (.c (.int .i64 (1))), none, 0, 0, 0⟩,
  ⟨d27, .mv t69, none, 0, 0, 0⟩])))))))
 (.seq (.reg false [⟨d70, .mv t5, none, 0, 0, 0⟩,
  ⟨d71, .call (.f 94) [t70], none, 1, 0, 0⟩,
  ⟨d2, .mv t71, none, 0, 0, 0⟩,
  ⟨d3, .mv (.c (.int .i64 (0))), none, 0, 0, 0⟩])
 .ret)))))⟩
theorem ok39 : GoodFn Tryz.prog kt (39, ir39) := ⟨Tryz.f39, fun _ _ => false, Tryz.func39, by kernel_rfl⟩
/- slices.pdqsortOrdered[int] -/
def ir221 : IFn := ⟨4, [],
 (.seq (.reg false [⟨d8, .mv (.c (.bool true)), none, 0, 0, 0⟩])
 (.seq (.reg false [⟨d9, .mv (.c (.bool true)), none, 0, 0, 0⟩])
 (.block 0 (.loop (.block 1 (.seq (.reg false [⟨d19, .mv t2, none, 0, 0, 0⟩,
  ⟨d20, .mv t1, none, 0, 0, 0⟩,
  ⟨d21, .bin .sub .scalar t19 t20, none, 0, 0, 0⟩,
  ⟨d10, .mv t21, none, 0, 0, 0⟩])
 (.seq (.seq (.reg false [⟨d22, .mv t10, none, 0, 0, 0⟩,
  ⟨d23, .bin .leq .scalar t22 (.c (.int .i64 (12))), none, 0, 0, 0⟩])
 (.cond t23
 (.seq (.reg false [⟨d24, .mv t0, none, 0, 0, 0⟩,
  ⟨d25, .mv t1, none, 0, 0, 0⟩,
  ⟨d26, .mv t2, none, 0, 0, 0⟩,
  ⟨d27, .call (.f 234) [t24, t25, t26], none, 1, 0, 0⟩])
 .ret)
 .skip))
 (.seq (.seq (.reg false [⟨d28, .mv t3, none, 0, 0, 0⟩,
  ⟨d29, .bin .eql .scalar t28 (.c (.int .i64 (0))), none, 0, 0, 0⟩])
 (.cond t29
 (.seq (.reg false [⟨d30, .mv t0, none, 0, 0, 0⟩,
  ⟨d31, .mv t1, none, 0, 0, 0⟩,
  ⟨d32, .mv t2, none, 0, 0, 0⟩,
  ⟨d33, .call (.f 235) [t30, t31, t32], none, 1, 0, 0⟩])
 .ret)
 .skip))
 (.seq (.seq (.reg false [⟨d34, .mv t8, none, 0, 0, 0⟩,
  ⟨d35, .un .not t34, none, 0, 0, 0⟩])
 (.cond t35
 (.seq (.reg false [⟨d36, .mv t0, none, 0, 0, 0⟩,
  ⟨d37, .mv t1, none, 0, 0, 0⟩,
  ⟨d38, .mv t2, none, 0, 0, 0⟩,
  ⟨d39, .call (.f 236) [t36, t37, t38], none, 1, 0, 0⟩])
 (.reg false [⟨d40, .mv t3, none, 0, 0, 0⟩,
  ⟨d41, .bin .sub .scalar t40 (.c (.int .i64 (1))), none, 0, 0, 0⟩,
  ⟨d3, .mv t41, none, 0, 0, 0⟩]))
 .skip))
 (.seq (.reg false [⟨d43, .mv t0, none, 0, 0, 0⟩,
  ⟨d44, .mv t1, none, 0, 0, 0⟩,
  ⟨d45, .mv t2, none, 0, 0, 0⟩,
  ⟨d46, .call (.f 237) [t43, t44, t45], none, 1, 0, 0⟩,
  ⟨d42, .mv t46, none, 0, 0, 0⟩,
  ⟨d47, .extract 0 t42, none, 0, 0, 0⟩,
  ⟨d48, .extract 1 t42, none, 0, 0, 0⟩,
  ⟨d11, .mv t47, none, 0, 0, 0⟩,
  ⟨d12, .mv t48, none, 0, 0, 0⟩])
 (.seq (.seq (.reg false [⟨d49, .mv t12, none, 0, 0, 0⟩,
  ⟨d50, .bin .eql .scalar t49 (.c (.int .i64 (2))), none, 0, 0, 0⟩])
 (.cond t50
 (.seq (.reg false [⟨d51, .mv t0, none, 0, 0, 0⟩,
  ⟨d52, .mv t1, none, 0, 0, 0⟩,
  ⟨d53, .mv t2, none, 0, 0, 0⟩,
  ⟨d54, .call (.f 238) [t51, t52, t53], none, 1, 0, 0⟩])
 (.seq (.reg false [⟨d55, .mv t2, none, 0, 0, 0⟩,
  ⟨d56, .bin .sub .scalar t55 (.c (.int .i64 (1))), none, 0, 0, 0⟩,
  ⟨d57, .mv t11, none, 0, 0, 0⟩,
  ⟨d58, .mv t1, none, 0, 0, 0⟩,
  ⟨d59, .bin .sub .scalar t57 t58, none, 0, 0, 0⟩,
  ⟨d60, .bin .sub .scalar t56 t59, none, 0, 0, 0⟩,
  ⟨d11, .mv t60, none, 0, 0, 0⟩])
 (.reg false [⟨d12, .mv (.c (.int .i64 (1))), none, 0, 0, 0⟩])))
 .skip))
 (.seq (.seq (.reg false [⟨d61, .mv t8, none, 0, 0, 0⟩,
  ⟨d62, .mv t61, none, 0, 0, 0⟩,
  ⟨d63, .mv t9, (some (p62, true)), 0, 0, 0⟩,
  ⟨d64, .pick t62 t63 (.c (.bool false)), none, 0, 0, 0⟩,
  ⟨d65, .mv t64, none, 0, 0, 0⟩,
  ⟨d66, .mv t12, (some (p65, true)), 0, 0, 0⟩,
  ⟨d67, .bin .eql .scalar t66 (.c (.int .i64 (1))), (some (p65, true)), 0, 0, 0⟩,
  ⟨d68, .pick t65 t67 (.c (.bool false)), none, 0, 0, 0⟩])
 (.cond t68
 (.seq (.reg false [⟨d69, .mv t0, none, 0, 0, 0⟩,
  ⟨d70, .mv t1, none, 0, 0, 0⟩,
  ⟨d71, .mv t2, none, 0, 0, 0⟩,
  ⟨d72, .call (.f 239) [t69, t70, t71], none, 1, 0, 0⟩])
 (.cond t72
 .ret
 .skip))
 .skip))
 (.seq (.seq (.reg true [⟨d73, .mv t1, none, 0, 0, 0⟩,
  ⟨d74, .bin .gtr .scalar t73 (.c (.int .i64 (0))), none, 0, 0, 0⟩,
  ⟨d75, .mv t74, none, 0, 0, 0⟩,
  ⟨d76, .mv t0, (some (p75, true)), 0, 0, 0⟩,
  ⟨d77, .mv t1, (some (p75, true)), 0, 0, 0⟩,
  ⟨d78, .bin .sub .scalar t77 (.c (.int .i64 (1))), (some (p75, true)), 0, 0, 0⟩,
  ⟨d79, .iaddr none 1 t76 t78, (some (p75, true)), 0, 0, 0⟩,
  ⟨d80, .load false 1 t79, (some (p75, true)), 1, 0, 0⟩,
  ⟨d81, .mv t0, (some (p75, true)), 0, 0, 0⟩,
  ⟨d82, .mv t11, (some (p75, true)), 0, 0, 0⟩,
  ⟨d83, .iaddr none 1 t81 t82, (some (p75, true)), 0, 0, 0⟩,
  ⟨d84, .load false 1 t83, (some (p75, true)), 1, 0, 0⟩,
  ⟨d85, .call (.f 240) [t80, t84], (some (p75, true)), 1, 0, 0⟩,
  ⟨d86, .un .not t85, (some (p75, true)), 0, 0, 0⟩,
  ⟨d87, .pick t75 t86 (.c (.bool false)), none, 0, 0, 0⟩])
 (.cond t87
 (.seq (.reg false [⟨d88, .mv t0, none, 0, 0, 0⟩,
  ⟨d89, .mv t1, none, 0, 0, 0⟩,
  ⟨d90, .mv t2, none, 0, 0, 0⟩,
  ⟨d91, .mv t11, none, 0, 0, 0⟩,
  ⟨d92, .call (.f 241) [t88, t89, t90, t91], none, 1, 0, 0⟩,
  ⟨d13, .mv t92, none, 0, 0, 0⟩])
 (.seq (.reg false [⟨d93, .mv t13, none, 0, 0, 0⟩,
  ⟨d1, .mv t93, none, 0, 0, 0⟩])
 (.exit 1)))
 .skip))
 (.seq (.reg false [⟨d95, .mv t0, none, 0, 0, 0⟩,
  ⟨d96, .mv t1, none, 0, 0, 0⟩,
  ⟨d97, .mv t2, none, 0, 0, 0⟩,
  ⟨d98, .mv t11, none, 0, 0, 0⟩,
  ⟨d99, .call (.f 242) [t95, t96, t97, t98], none, 1, 0, 0⟩,
  ⟨d94, .mv t99, none, 0, 0, 0⟩,
  ⟨d100, .extract 0 t94, none, 0, 0, 0⟩,
  ⟨d101, .extract 1 t94, none, 0, 0, 0⟩,
  ⟨d14, .mv t100, none, 0, 0, 0⟩,
  ⟨d15, .mv t101, none, 0, 0, 0⟩])
 (.seq (.reg false [⟨d102, .mv t15, none, 0, 0, 0⟩,
  ⟨d9, .mv t102, none, 0, 0, 0⟩])
 (.seq (.reg false [⟨d103, .mv t14, none, 0, 0, 0⟩,
  ⟨d104, .mv t1, none, 0, 0, 0⟩,
  ⟨d105, .bin .sub .scalar t103 t104, none, 0, 0, 0⟩,
  ⟨d106, .mv t2, none, 0, 0, 0⟩,
  ⟨d107, .mv t14, none, 0, 0, 0⟩,
  ⟨d108, .bin .sub .scalar t106 t107, none, 0, 0, 0⟩,
  ⟨d16, .mv t105, none, 0, 0, 0⟩,
  ⟨d17, .mv t108, none, 0, 0, 0⟩])
 (.seq (.reg false [⟨d109, .mv t10, none, 0, 0, 0⟩,
  ⟨d110, .bin .quo .scalar t109 (.c (.int .i64 (8))), none, 0, 0, 0⟩,
  ⟨d18, .mv t110, none, 0, 0, 0⟩])
 (.seq (.reg false [⟨d111, .mv t16, none, 0, 0, 0⟩,
  ⟨d112, .mv t17, none, 0, 0, 0⟩,
  ⟨d113, .bin .lss .scalar t111 t112, none, 0, 0, 0⟩])
 (.cond t113
 (.seq (.reg false [⟨d114, .mv t16, none, 0, 0, 0⟩,
  ⟨d115, .mv t18, none, 0, 0, 0⟩,
  ⟨d116, .bin .geq .scalar t114 t115, none, 0, 0, 0⟩,
  ⟨d8, .mv t116, none, 0, 0, 0⟩])
 (.seq (.reg false [⟨d117, .mv t0, none, 0, 0, 0⟩,
  ⟨d118, .mv t1, none, 0, 0, 0⟩,
  ⟨d119, .mv t14, none, 0, 0, 0⟩,
  ⟨d120, .mv t3, none, 0, 0, 0⟩,
  ⟨d121, .call (.f 221) [t117, t118, t119, t120], none, 1, 0, 0⟩])
 (.reg false [⟨d122, .mv t14, none, 0, 0, 0⟩,
  ⟨d123, .bin .add .scalar t122 (.c (.int .i64 (1))), none, 0, 0, 0⟩,
  ⟨d1, .mv t123, none, 0, 0, 0⟩])))
 (.seq (.reg false [⟨d124, .mv t17, none, 0, 0, 0⟩,
  ⟨d125, .mv t18, none, 0, 0, 0⟩,
  ⟨d126, .bin .geq .scalar t124 t125, none, 0, 0, 0⟩,
  ⟨d8, .mv t126, none, 0, 0, 0⟩])
 (.seq (.reg false [⟨d127, .mv t0, none, 0, 0, 0⟩,
  ⟨d128, .mv t14, none, 0, 0, 0⟩,
  ⟨d129, .bin .add .scalar t128 (.c (.int .i64 (1))), none, 0, 0, 0⟩,
  ⟨d130, .mv t2, none, 0, 0, 0⟩,
  ⟨d131, .mv t3, none, 0, 0, 0⟩,
  ⟨d132, .call (.f 221) [t127, t129, t130, t131], none, 1, 0, 0⟩])
 (.reg false [⟨d133, .mv t14, none, 0, 0, 0⟩,
  ⟨d2, .mv t133, none, 0, 0, 0⟩]))))))))))))))))))))))⟩
theorem ok221 : GoodFn Tryz.prog kt (221, ir221) := ⟨Tryz.f221, fun _ _ => false, Tryz.func221, by kernel_rfl⟩
/- internal/strconv.small -/
def ir168 : IFn := ⟨1, [.t p2],
 (.seq (.reg false [⟨d2, .mv (.c (.string (bsN []))), none, 0, 0, 0⟩])
 (.seq (.seq (.reg false [⟨d3, .mv t0, none, 0, 0, 0⟩,
  ⟨d4, .bin .lss .scalar t3 (.c (.int .i64 (10))), none, 0, 0, 0⟩])
 (.cond t4
 (.seq (.reg false [⟨d5, .mv t0, none, 0, 0, 0⟩,
  ⟨d6, .mv t0, none, 0, 0, 0⟩,
  ⟨d7, .bin .add .scalar t6 (.c (.int .i64 (1))), none, 0, 0, 0⟩,
  ⟨d8, .slice 0 0 0 (.c (.string (bsN [48, 49, 50, 51, 52, 53, 54, 55, 56, 57, 97, 98, 99, 100, 101, 102, 103, 104, 105, 106, 107, 108, 109, 110, 111, 112, 113, 114, 115, 116, 117, 118, 119, 120, 121, 122]))) (some t5) (some t7) none, none, 0, 0, 0⟩,
  ⟨d2, .mv t8, none, 0, 0, 0⟩])
 .ret)
 .skip))
 (.seq (.reg false [⟨d9, .mv t0, none, 0, 0, 0⟩,
  ⟨d10, .bin .mul .scalar t9 (.c (.int .i64 (2))), none, 0, 0, 0⟩,
  ⟨d11, .mv t0, none, 0, 0, 0⟩,
  ⟨d12, .bin .mul .scalar t11 (.c (.int .i64 (2))), none, 0, 0, 0⟩,
  ⟨d13, .bin .add .scalar t12 (.c (.int .i64 (2))), none, 0, 0, 0⟩,
  ⟨d14, .slice 0 0 0 (.c (.string (bsN [48, 48, 48, 49, 48, 50, 48, 51, 48, 52, 48, 53, 48, 54, 48, 55, 48, 56, 48, 57, 49, 48, 49, 49, 49, 50, 49, 51, 49, 52, 49, 53, 49, 54, 49, 55, 49, 56, 49, 57, 50, 48, 50, 49, 50, 50, 50, 51, 50, 52, 50, 53, 50, 54, 50, 55, 50, 56, 50, 57, 51, 48, 51, 49, 51, 50, 51, 51, 51, 52, 51, 53, 51, 54, 51, 55, 51, 56, 51, 57, 52, 48, 52, 49, 52, 50, 52, 51, 52, 52, 52, 53, 52, 54, 52, 55, 52, 56, 52, 57, 53, 48, 53, 49, 53, 50, 53, 51, 53, 52, 53, 53, 53, 54, 53, 55, 53, 56, 53, 57, 54, 48, 54, 49, 54, 50, 54, 51, 54, 52, 54, 53, 54, 54, 54, 55, 54, 56, 54, 57, 55, 48, 55, 49, 55, 50, 55, 51, 55, 52, 55, 53, 55, 54, 55, 55, 55, 56, 55, 57, 56, 48, 56, 49, 56, 50, 56, 51, 56, 52, 56, 53, 56, 54, 56, 55, 56, 56, 56, 57, 57, 48, 57, 49, 57, 50, 57, 51, 57, 52, 57, 53, 57, 54, 57, 55, 57, 56, 57, 57]))) (some t10) (some t13) none, none, 0, 0, 0⟩,
  ⟨d2, .mv t14, none, 0, 0, 0⟩])
 .ret)))⟩
theorem ok168 : GoodFn Tryz.prog kt (168, ir168) := ⟨Tryz.f168, fun _ _ => false, Tryz.func168, by kernel_rfl⟩
/- strings.HasPrefix -/
def ir65 : IFn := ⟨2, [.t p4],
 (.seq (.reg false [⟨d4, .mv (.c (.bool false)), none, 0, 0, 0⟩])
 (.seq (.reg false [⟨d5, .mv t0, none, 0, 0, 0⟩,
  ⟨d6, .mv t1, none, 0, 0, 0⟩,
  ⟨d7, .call (.f 120) [t5, t6], none, 1, 0, 0⟩,
  ⟨d4, .mv t7, none, 0, 0, 0⟩])
 .ret))⟩
theorem ok65 : GoodFn Tryz.prog kt (65, ir65) := ⟨Tryz.f65, fun _ _ => false, Tryz.func65, by kernel_rfl⟩
/- internal/stringslite.HasPrefix -/
def ir120 : IFn := ⟨2, [.t p4],
 (.seq (.reg false [⟨d4, .mv (.c (.bool false)), none, 0, 0, 0⟩])
 (.seq (.reg false [⟨d5, .mv t0, none, 0, 0, 0⟩,
  ⟨d6, .len 0 t5, none, 1, 0, 0⟩,
  ⟨d7, .mv t1, none, 0, 0, 0⟩,
  ⟨d8, .len 0 t7, none, 1, 0, 0⟩,
  ⟨d9, .bin .geq .scalar t6 t8, none, 0, 0, 0⟩,
  ⟨d10, .mv t9, none, 0, 0, 0⟩,
  ⟨d11, .mv t0, (some (p10, true)), 0, 0, 0⟩,
  ⟨d12, .mv t1, (some (p10, true)), 0, 0, 0⟩,
  ⟨d13, .len 0 t12, (some (p10, true)), 1, 0, 0⟩,
  ⟨d14, .slice 0 0 0 t11 none (some t13) none, (some (p10, true)), 0, 0, 0⟩,
  ⟨d15, .mv t1, (some (p10, true)), 0, 0, 0⟩,
  ⟨d16, .bin .eql .scalar t14 t15, (some (p10, true)), 0, 0, 0⟩,
  ⟨d17, .pick t10 t16 (.c (.bool false)), none, 0, 0, 0⟩,
  ⟨d4, .mv t17, none, 0, 0, 0⟩])
 .ret))⟩
theorem ok120 : GoodFn Tryz.prog kt (120, ir120) := ⟨Tryz.f120, fun _ _ => false, Tryz.func120, by kernel_rfl⟩
/- firkin/retry.Sure -/
def ir40 : IFn := ⟨2, [.t p4, .t p5, .t p6],
 (.seq (.reg false [⟨d3, .box t1, none, 3, 0, 0⟩,
  ⟨d4, .mv (.c (.int .i64 (0))), none, 0, 0, 0⟩,
  ⟨d5, .mv (.c (.bool false)), none, 0, 0, 0⟩,
  ⟨d6, .mv (.c (.int .i64 (0))), none, 0, 0, 0⟩])
 (.seq (.seq (.reg false [⟨d10, .load false 1 t3, none, 1, 0, 0⟩,
  ⟨d11, .bin .eql (.ref .func) t10 (.c .nilFunc), none, 0, 0, 0⟩])
 (.cond t11
 (.seq (.reg false [⟨d4, .mv (.c (.int .i64 (9))), none, 0, 0, 0⟩,
  ⟨d5, .mv (.c (.bool false)), none, 0, 0, 0⟩,
  ⟨d6, .mv (.c (.int .i64 (0))), none, 0, 0, 0⟩])
 .ret)
 .skip))
 (.seq (.reg false [⟨d7, .alloc [(.bool false)], none, 2, 0, 0⟩,
  ⟨none, .store 1 t7 (.c (.bool false)), none, 3, 0, 0⟩])
 (.seq (.reg false [⟨d13, .mv t0, none, 0, 0, 0⟩,
  ⟨d14, .mkfunc (.func 95) [] [t3, t7], none, 0, 0, 0⟩,
  ⟨d15, .call (.f 78) [t13, t14], none, 3, 0, 0⟩,
  ⟨d12, .mv t15, none, 0, 0, 0⟩,
  ⟨d16, .extract 0 t12, none, 0, 0, 0⟩,
  ⟨d17, .extract 1 t12, none, 0, 0, 0⟩,
  ⟨d8, .mv t16, none, 0, 0, 0⟩,
  ⟨d9, .mv t17, none, 0, 0, 0⟩])
 (.seq (.reg true [⟨d18, .mv t8, none, 0, 0, 0⟩,
  ⟨d19, .mv t9, none, 0, 0, 0⟩,
  ⟨d20, .bin .gtr .scalar t19 (.c (.int .i64 (0))), none, 0, 0, 0⟩,
  ⟨d21, .mv t20, none, 0, 0, 0⟩,
  ⟨d22, .load false 1 t7, (some (p21, true)), 1, 0, 0⟩,
  ⟨d23, .un .not t22, (some (p21, true)), 0, 0, 0⟩,
  ⟨d24, .pick t21 t23 (.c (.bool false)), none, 0, 0, 0⟩,
  ⟨d25, .mv t9, none, 0, 0, 0⟩,
  ⟨d4, .mv t18, none, 0, 0, 0⟩,
  ⟨d5, .mv t24, none, 0, 0, 0⟩,
  ⟨d6, .mv t25, none, 0, 0, 0⟩])
 .ret)))))⟩
theorem ok40 : GoodFn Tryz.prog kt (40, ir40) := ⟨Tryz.f40, fun _ _ => false, Tryz.func40, by kernel_rfl⟩
/- (*firkin/world.World).PutNew -/
def ir42 : IFn := ⟨3, [.t p6],
 (.seq (.reg false [⟨d6, .mv (.c (.int .i64 (0))), none, 0, 0, 0⟩])
 (.seq (.reg false [⟨d7, .mv t0, none, 0, 0, 0⟩,
  ⟨d8, .mv t1, none, 0, 0, 0⟩,
  ⟨d9, .mv t2, none, 0, 0, 0⟩,
  ⟨d10, .call (.f 96) [t7, t8, t9, (.c (.bool true))], none, 3, 0, 0⟩,
  ⟨d6, .mv t10, none, 0, 0, 0⟩])
 .ret))⟩
theorem ok42 : GoodFn Tryz.prog kt (42, ir42) := ⟨Tryz.f42, fun _ _ => false, Tryz.func42, by kernel_rfl⟩
/- firkin/world.Name -/
def ir111 : IFn := ⟨1, [.t p2],
 (.seq (.reg false [⟨d2, .mv (.c (.bool false)), none, 0, 0, 0⟩])
 (.seq (.seq (.reg false [⟨d7, .mv t0, none, 0, 0, 0⟩,
  ⟨d8, .convBytes t7, none, 0, 0, 0⟩,
  ⟨d9, .len 1 t8, none, 1, 0, 0⟩,
  ⟨d10, .mv (.c (.int .i64 (0))), none, 0, 0, 0⟩])
 (.block 0 (.loop (.seq (.reg false [⟨d11, .bin .lss .scalar t10 t9, none, 0, 0, 0⟩])
 (.seq (.cond t11
 .skip
 (.exit 0))
 (.seq (.block 1 (.seq (.reg false [⟨d12, .iaddr none 1 t8 t10, none, 0, 0, 0⟩,
  ⟨d13, .load false 1 t12, none, 1, 0, 0⟩,
  ⟨d4, .mv t13, none, 0, 0, 0⟩])
 (.seq (.reg false [⟨d14, .mv t4, none, 0, 0, 0⟩,
  ⟨d15, .bin .geq .scalar t14 (.c (.int .u8 (97))), none, 0, 0, 0⟩,
  ⟨d16, .mv t15, none, 0, 0, 0⟩,
  ⟨d17, .mv t4, (some (p16, true)), 0, 0, 0⟩,
  ⟨d18, .bin .leq .scalar t17 (.c (.int .u8 (122))), (some (p16, true)), 0, 0, 0⟩,
  ⟨d19, .pick t16 t18 (.c (.bool false)), none, 0, 0, 0⟩,
  ⟨d20, .mv t4, none, 0, 0, 0⟩,
  ⟨d21, .bin .geq .scalar t20 (.c (.int .u8 (48))), none, 0, 0, 0⟩,
  ⟨d22, .mv t21, none, 0, 0, 0⟩,
  ⟨d23, .mv t4, (some (p22, true)), 0, 0, 0⟩,
  ⟨d24, .bin .leq .scalar t23 (.c (.int .u8 (57))), (some (p22, true)), 0, 0, 0⟩,
  ⟨d25, .pick t22 t24 (.c (.bool false)), none, 0, 0, 0⟩,
  ⟨d5, .mv t19, none, 0, 0, 0⟩,
  ⟨d6, .mv t25, none, 0, 0, 0⟩])
 (.seq (.reg false [⟨d26, .mv t5, none, 0, 0, 0⟩,
  ⟨d27, .un .not t26, none, 0, 0, 0⟩,
  ⟨d28, .mv t27, none, 0, 0, 0⟩,
  ⟨d29, .mv t6, (some (p28, true)), 0, 0, 0⟩,
  ⟨d30, .un .not t29, (some (p28, true)), 0, 0, 0⟩,
  ⟨d31, .pick t28 t30 (.c (.bool false)), none, 0, 0, 0⟩,
  ⟨d32, .mv t31, none, 0, 0, 0⟩,
  ⟨d33, .mv t4, (some (p32, true)), 0, 0, 0⟩,
  ⟨d34, .bin .neq .scalar t33 (.c (.int .u8 (47))), (some (p32, true)), 0, 0, 0⟩,
  ⟨d35, .pick t32 t34 (.c (.bool false)), none, 0, 0, 0⟩,
  ⟨d36, .mv t35, none, 0, 0, 0⟩,
  ⟨d37, .mv t4, (some (p36, true)), 0, 0, 0⟩,
  ⟨d38, .bin .neq .scalar t37 (.c (.int .u8 (46))), (some (p36, true)), 0, 0, 0⟩,
  ⟨d39, .pick t36 t38 (.c (.bool false)), none, 0, 0, 0⟩])
 (.cond t39
 (.seq (.reg false [⟨d2, .mv (.c (.bool false)), none, 0, 0, 0⟩])
 .ret)
 .skip)))))
 (.reg false [⟨d40, .bin .add .scalar t10 (.c (.int .i64 (1))), none, 0, 0, 0⟩,
  ⟨d10, .mv t40, none, 0, 0, 0⟩])))))))
 (.seq (.reg false [⟨d41, .mv t0, none, 0, 0, 0⟩,
  ⟨d42, .bin .neq .scalar t41 (.c (.string (bsN []))), none, 0, 0, 0⟩,
  ⟨d43, .mv t42, none, 0, 0, 0⟩,
  ⟨d44, .mv t0, (some (p43, true)), 0, 0, 0⟩,
  ⟨d45, .len 0 t44, (some (p43, true)), 1, 0, 0⟩,
  ⟨d46, .bin .leq .scalar t45 (.c (.int .i64 (24))), (some (p43, true)), 0, 0, 0⟩,
  ⟨d47, .pick t43 t46 (.c (.bool false)), none, 0, 0, 0⟩,
  ⟨d2, .mv t47, none, 0, 0, 0⟩])
 .ret)))⟩
theorem ok111 : GoodFn Tryz.prog kt (111, ir111) := ⟨Tryz.f111, fun _ _ => false, Tryz.func111, by kernel_rfl⟩
/- (*firkin/world.World).put$1 -/
def ir151 : IFn := ⟨4, [.t p4],
 (.seq (.reg false [⟨d4, .mv (.c (.int .i64 (0))), none, 0, 0, 0⟩])
 (.seq (.seq (.reg true [⟨d8, .load false 1 t0, none, 1, 0, 0⟩,
  ⟨d9, .nilCheck t8, none, 0, 0, 0⟩,
  ⟨d10, .faddr 0 t9, none, 0, 0, 0⟩,
  ⟨d11, .load false 1 t10, none, 1, 0, 0⟩,
  ⟨d12, .load false 1 t1, none, 1, 0, 0⟩,
  ⟨d13, .lookup (.one .s) (.slice none 0 0) true t11 t12, none, 1, 0, 0⟩,
  ⟨d7, .mv t13, none, 0, 0, 0⟩,
  ⟨d14, .extract 0 t7, none, 0, 0, 0⟩,
  ⟨d15, .extract 1 t7, none, 0, 0, 0⟩,
  ⟨d5, .mv t14, none, 0, 0, 0⟩,
  ⟨d6, .mv t15, none, 0, 0, 0⟩])
 (.seq (.reg false [⟨d16, .mv t6, none, 0, 0, 0⟩,
  ⟨d17, .mv t16, none, 0, 0, 0⟩,
  ⟨d18, .load false 1 t2, (some (p17, true)), 1, 0, 0⟩,
  ⟨d19, .pick t17 t18 (.c (.bool false)), none, 0, 0, 0⟩])
 (.cond t19
 (.seq (.reg false [⟨d4, .mv (.c (.int .i64 (6))), none, 0, 0, 0⟩])
 .ret)
 .skip)))
 (.seq (.reg true [⟨d20, .load false 1 t0, none, 1, 0, 0⟩,
  ⟨d21, .nilCheck t20, none, 0, 0, 0⟩,
  ⟨d22, .faddr 0 t21, none, 0, 0, 0⟩,
  ⟨d23, .load false 1 t22, none, 1, 0, 0⟩,
  ⟨d24, .load false 1 t1, none, 1, 0, 0⟩,
  ⟨d25, .load false 1 t3, none, 1, 0, 0⟩,
  ⟨d26, .call (.f 135) [t25], none, 1, 0, 0⟩,
  ⟨none, .mupd (.one .s) t23 t24 t26, none, 3, 0, 0⟩])
 (.seq (.reg false [⟨d4, .mv (.c (.int .i64 (0))), none, 0, 0, 0⟩])
 .ret))))⟩
theorem ok151 : GoodFn Tryz.prog kt (151, ir151) := ⟨Tryz.f151, fun _ _ => false, Tryz.func151, by kernel_rfl⟩
/- firkin/mark.greatest$1 -/
def ir79 : IFn := ⟨2, [.t p2],
 (.seq (.reg false [⟨d2, .mv (.c (.int .i64 (0))), none, 0, 0, 0⟩])
 (.seq (.reg false [⟨d3, .mv (.c (.int .i64 (0))), none, 0, 0, 0⟩])
 (.seq (.reg false [⟨d5, .load false 1 t0, none, 1, 0, 0⟩,
  ⟨d6, .call (.f 80) [t5, (.c (.string (bsN [118, 47])))], none, 3, 0, 0⟩,
  ⟨d4, .mv t6, none, 0, 0, 0⟩,
  ⟨d7, .extract 0 t4, none, 0, 0, 0⟩,
  ⟨d8, .extract 1 t4, none, 0, 0, 0⟩,
  ⟨none, .store 1 t1 t7, none, 3, 0, 0⟩,
  ⟨d3, .mv t8, none, 0, 0, 0⟩])
 (.seq (.reg false [⟨d9, .mv t3, none, 0, 0, 0⟩,
  ⟨d2, .mv t9, none, 0, 0, 0⟩])
 .ret))))⟩
theorem ok79 : GoodFn Tryz.prog kt (79, ir79) := ⟨Tryz.f79, fun _ _ => false, Tryz.func79, by kernel_rfl⟩
/- (*firkin/world.World).List -/
def ir80 : IFn := ⟨2, [.t p4, .t p5],
 (.seq (.reg false [⟨d3, .box t1, none, 3, 0, 0⟩,
  ⟨d4, .mv (.c (.slice none 0 0)), none, 0, 0, 0⟩,
  ⟨d5, .mv (.c (.int .i64 (0))), none, 0, 0, 0⟩])
 (.seq (.reg false [⟨d7, .mv t0, none, 0, 0, 0⟩,
  ⟨d8, .call (.f 110) [t7, (.c (.bool true)), (.f 131)], none, 3, 0, 0⟩,
  ⟨d6, .mv t8, none, 0, 0, 0⟩])
 (.seq (.seq (.reg false [⟨d9, .mv t6, none, 0, 0, 0⟩,
  ⟨d10, .bin .neq .scalar t9 (.c (.int .i64 (0))), none, 0, 0, 0⟩])
 (.cond t10
 (.seq (.reg false [⟨d11, .mv t6, none, 0, 0, 0⟩,
  ⟨d4, .mv (.c (.slice none 0 0)), none, 0, 0, 0⟩,
  ⟨d5, .mv t11, none, 0, 0, 0⟩])
 .ret)
 .skip))
 (.seq (.reg false [⟨d12, .mv t0, none, 0, 0, 0⟩,
  ⟨d13, .call (.f 28) [t12], none, 1, 0, 0⟩,
  ⟨d14, .mkfunc (.func 133) [] [t3], none, 0, 0, 0⟩,
  ⟨d15, .call (.f 132) [t13, t14], none, 1, 0, 0⟩,
  ⟨d4, .mv t15, none, 0, 0, 0⟩,
  ⟨d5, .mv (.c (.int .i64 (0))), none, 0, 0, 0⟩])
 .ret))))⟩
theorem ok80 : GoodFn Tryz.prog kt (80, ir80) := ⟨Tryz.f80, fun _ _ => false, Tryz.func80, by kernel_rfl⟩
/- (*firkin/world.World).Names -/
def ir28 : IFn := ⟨1, [.t p2],
 (.seq (.reg false [⟨d2, .mv (.c (.slice none 0 0)), none, 0, 0, 0⟩])
 (.seq (.seq (.reg false [⟨d3, .mv t0, none, 0, 0, 0⟩,
  ⟨d4, .call (.f 49) [t3], none, 1, 0, 0⟩,
  ⟨d5, .un .not t4, none, 0, 0, 0⟩])
 (.cond t5
 (.seq (.reg false [⟨d2, .mv (.c (.slice none 0 0)), none, 0, 0, 0⟩])
 .ret)
 .skip))
 (.seq (.reg false [⟨d6, .mv t0, none, 0, 0, 0⟩,
  ⟨d7, .nilCheck t6, none, 0, 0, 0⟩,
  ⟨d8, .faddr 0 t7, none, 0, 0, 0⟩,
  ⟨d9, .load false 1 t8, none, 1, 0, 0⟩,
  ⟨d10, .call (.f 62) [t9], none, 3, 0, 0⟩,
  ⟨d11, .call (.f 61) [t10], none, 1, 0, 0⟩,
  ⟨d2, .mv t11, none, 0, 0, 0⟩])
 .ret)))⟩
theorem ok28 : GoodFn Tryz.prog kt (28, ir28) := ⟨Tryz.f28, fun _ _ => false, Tryz.func28, by kernel_rfl⟩
/- (*firkin/world.World).List$2 -/
def ir133 : IFn := ⟨2, [.t p3],
 (.seq (.reg false [⟨d3, .mv (.c (.bool false)), none, 0, 0, 0⟩])
 (.seq (.reg false [⟨d4, .mv t0, none, 0, 0, 0⟩,
  ⟨d5, .load false 1 t1, none, 1, 0, 0⟩,
  ⟨d6, .call (.f 65) [t4, t5], none, 1, 0, 0⟩,
  ⟨d7, .un .not t6, none, 0, 0, 0⟩,
  ⟨d3, .mv t7, none, 0, 0, 0⟩])
 .ret))⟩
theorem ok133 : GoodFn Tryz.prog kt (133, ir133) := ⟨Tryz.f133, fun _ _ => false, Tryz.func133, by kernel_rfl⟩
/- firkin/mark.Version -/
def ir9 : IFn := ⟨1, [.t p2, .t p3],
 (.seq (.reg false [⟨d2, .mv (.c (.int .i64 (0))), none, 0, 0, 0⟩,
  ⟨d3, .mv (.c (.bool false)), none, 0, 0, 0⟩])
 (.seq (.reg false [⟨d7, .mv t0, none, 0, 0, 0⟩,
  ⟨d8, .call (.f 33) [t7, (.c (.string (bsN [118, 47])))], none, 1, 0, 0⟩,
  ⟨d9, .call (.f 32) [t8, (.c (.string (bsN [48])))], none, 1, 0, 0⟩,
  ⟨d10, .call (.f 31) [t9], none, 1, 0, 0⟩,
  ⟨d6, .mv t10, none, 0, 0, 0⟩,
  ⟨d11, .extract 0 t6, none, 0, 0, 0⟩,
  ⟨d12, .extract 1 t6, none, 0, 0, 0⟩,
  ⟨d4, .mv t11, none, 0, 0, 0⟩,
  ⟨d5, .mv t12, none, 0, 0, 0⟩])
 (.seq (.seq (.reg false [⟨d13, .mv t5, none, 0, 0, 0⟩,
  ⟨d14, .bin .neq (.ref .iface) t13 (.c .nilIface), none, 0, 0, 0⟩,
  ⟨d15, .mv t14, none, 0, 0, 0⟩,
  ⟨d16, .mv t4, (some (p15, false)), 0, 0, 0⟩,
  ⟨d17, .call (.f 8) [t16], (some (p15, false)), 1, 0, 0⟩,
  ⟨d18, .mv t0, (some (p15, false)), 0, 0, 0⟩,
  ⟨d19, .bin .neq .scalar t17 t18, (some (p15, false)), 0, 0, 0⟩,
  ⟨d20, .pick t15 (.c (.bool true)) t19, none, 0, 0, 0⟩,
  ⟨d21, .mv t20, none, 0, 0, 0⟩,
  ⟨d22, .mv t0, (some (p21, false)), 0, 0, 0⟩,
  ⟨d23, .bin .eql .scalar t22 (.c (.string (bsN []))), (some (p21, false)), 0, 0, 0⟩,
  ⟨d24, .pick t21 (.c (.bool true)) t23, none, 0, 0, 0⟩])
 (.cond t24
 (.seq (.reg false [⟨d2, .mv (.c (.int .i64 (0))), none, 0, 0, 0⟩,
  ⟨d3, .mv (.c (.bool false)), none, 0, 0, 0⟩])
 .ret)
 .skip))
 (.seq (.reg false [⟨d25, .mv t4, none, 0, 0, 0⟩,
  ⟨d2, .mv t25, none, 0, 0, 0⟩,
  ⟨d3, .mv (.c (.bool true)), none, 0, 0, 0⟩])
 .ret))))⟩
theorem ok9 : GoodFn Tryz.prog kt (9, ir9) := ⟨Tryz.f9, fun _ _ => false, Tryz.func9, by kernel_rfl⟩
/- internal/strconv.Atoi -/
def ir70 : IFn := ⟨1, [.t p2, .t p3],
 (.seq (.reg false [⟨d2, .mv (.c (.int .i64 (0))), none, 0, 0, 0⟩,
  ⟨d3, .mv (.c .nilIface), none, 0, 0, 0⟩])
 (.seq (.reg false [⟨d11, .mv t0, none, 0, 0, 0⟩,
  ⟨d12, .len 0 t11, none, 1, 0, 0⟩,
  ⟨d4, .mv t12, none, 0, 0, 0⟩])
 (.seq (.seq (.reg false [⟨d13, .mv (.c (.bool false)), none, 0, 0, 0⟩,
  ⟨d14, .mv t4, (some (p13, true)), 0, 0, 0⟩,
  ⟨d15, .bin .lss .scalar (.c (.int .i64 (0))) t14, (some (p13, true)), 0, 0, 0⟩,
  ⟨d16, .mv t15, (some (p13, true)), 0, 0, 0⟩,
  ⟨d17, .mv t4, (some (p16, true)), 0, 0, 0⟩,
  ⟨d18, .bin .lss .scalar t17 (.c (.int .i64 (10))), (some (p16, true)), 0, 0, 0⟩,
  ⟨d19, .pick t16 t18 (.c (.bool false)), (some (p13, true)), 0, 0, 0⟩,
  ⟨d20, .pick t13 t19 (.c (.bool false)), none, 0, 0, 0⟩,
  ⟨d21, .mv t20, none, 0, 0, 0⟩,
  ⟨d22, .mv (.c (.bool true)), (some (p21, false)), 0, 0, 0⟩,
  ⟨d23, .mv t4, (some (p22, true)), 0, 0, 0⟩,
  ⟨d24, .bin .lss .scalar (.c (.int .i64 (0))) t23, (some (p22, true)), 0, 0, 0⟩,
  ⟨d25, .mv t24, (some (p22, true)), 0, 0, 0⟩,
  ⟨d26, .mv t4, (some (p25, true)), 0, 0, 0⟩,
  ⟨d27, .bin .lss .scalar t26 (.c (.int .i64 (19))), (some (p25, true)), 0, 0, 0⟩,
  ⟨d28, .pick t25 t27 (.c (.bool false)), (some (p22, true)), 0, 0, 0⟩,
  ⟨d29, .pick t22 t28 (.c (.bool false)), (some (p21, false)), 0, 0, 0⟩,
  ⟨d30, .pick t21 (.c (.bool true)) t29, none, 0, 0, 0⟩])
 (.cond t30
 (.seq (.reg false [⟨d31, .mv t0, none, 0, 0, 0⟩,
  ⟨d5, .mv t31, none, 0, 0, 0⟩])
 (.seq (.seq (.reg false [⟨d32, .mv t0, none, 0, 0, 0⟩,
  ⟨d33, .index none t32 (.c (.int .i64 (0))), none, 0, 0, 0⟩,
  ⟨d34, .bin .eql .scalar t33 (.c (.int .u8 (45))), none, 0, 0, 0⟩,
  ⟨d35, .mv t34, none, 0, 0, 0⟩,
  ⟨d36, .mv t0, (some (p35, false)), 0, 0, 0⟩,
  ⟨d37, .index none t36 (.c (.int .i64 (0))), (some (p35, false)), 0, 0, 0⟩,
  ⟨d38, .bin .eql .scalar t37 (.c (.int .u8 (43))), (some (p35, false)), 0, 0, 0⟩,
  ⟨d39, .pick t35 (.c (.bool true)) t38, none, 0, 0, 0⟩])
 (.cond t39
 (.seq (.reg false [⟨d40, .mv t0, none, 0, 0, 0⟩,
  ⟨d41, .slice 0 0 0 t40 (some (.c (.int .i64 (1)))) none none, none, 0, 0, 0⟩,
  ⟨d0, .mv t41, none, 0, 0, 0⟩])
 (.seq (.reg false [⟨d42, .mv t0, none, 0, 0, 0⟩,
  ⟨d43, .len 0 t42, none, 1, 0, 0⟩,
  ⟨d44, .bin .lss .scalar t43 (.c (.int .i64 (1))), none, 0, 0, 0⟩])
 (.cond t44
 (.seq (.reg false [⟨d45, .iface 164 (.c (.int .i64 (2))), none, 0, 0, 0⟩,
  ⟨d2, .mv (.c (.int .i64 (0))), none, 0, 0, 0⟩,
  ⟨d3, .mv t45, none, 0, 0, 0⟩])
 .ret)
 .skip)))
 .skip))
 (.seq (.reg false [⟨d6, .mv (.c (.int .i64 (0))), none, 0, 0, 0⟩])
 (.seq (.seq (.reg false [⟨d46, .mv t0, none, 0, 0, 0⟩,
  ⟨d47, .convBytes t46, none, 0, 0, 0⟩,
  ⟨d48, .len 1 t47, none, 1, 0, 0⟩,
  ⟨d49, .mv (.c (.int .i64 (0))), none, 0, 0, 0⟩])
 (.block 0 (.loop (.seq (.reg false [⟨d50, .bin .lss .scalar t49 t48, none, 0, 0, 0⟩])
 (.seq (.cond t50
 .skip
 (.exit 0))
 (.seq (.block 1 (.seq (.reg false [⟨d51, .iaddr none 1 t47 t49, none, 0, 0, 0⟩,
  ⟨d52, .load false 1 t51, none, 1, 0, 0⟩,
  ⟨d8, .mv t52, none, 0, 0, 0⟩])
 (.seq (.reg false [⟨d53, .mv t8, none, 0, 0, 0⟩,
  ⟨d54, .bin .sub .scalar t53 (.c (.int .u8 (48))), none, 0, 0, 0⟩,
  ⟨d8, .mv t54, none, 0, 0, 0⟩])
 (.seq (.seq (.reg false [⟨d55, .mv t8, none, 0, 0, 0⟩,
  ⟨d56, .bin .gtr .scalar t55 (.c (.int .u8 (9))), none, 0, 0, 0⟩])
 (.cond t56
 (.seq (.reg false [⟨d57, .iface 164 (.c (.int .i64 (2))), none, 0, 0, 0⟩,
  ⟨d2, .mv (.c (.int .i64 (0))), none, 0, 0, 0⟩,
  ⟨d3, .mv t57, none, 0, 0, 0⟩])
 .ret)
 .skip))
 (.reg false [⟨d58, .mv t6, none, 0, 0, 0⟩,
  ⟨d59, .bin .mul .scalar t58 (.c (.int .i64 (10))), none, 0, 0, 0⟩,
  ⟨d60, .mv t8, none, 0, 0, 0⟩,
  ⟨d61, .convInt .i64 t60, none, 0, 0, 0⟩,
  ⟨d62, .bin .add .scalar t59 t61, none, 0, 0, 0⟩,
  ⟨d6, .mv t62, none, 0, 0, 0⟩])))))
 (.reg false [⟨d63, .bin .add .scalar t49 (.c (.int .i64 (1))), none, 0, 0, 0⟩,
  ⟨d49, .mv t63, none, 0, 0, 0⟩])))))))
 (.seq (.seq (.reg false [⟨d64, .mv t5, none, 0, 0, 0⟩,
  ⟨d65, .index none t64 (.c (.int .i64 (0))), none, 0, 0, 0⟩,
  ⟨d66, .bin .eql .scalar t65 (.c (.int .u8 (45))), none, 0, 0, 0⟩])
 (.cond t66
 (.reg false [⟨d67, .mv t6, none, 0, 0, 0⟩,
  ⟨d68, .un .neg t67, none, 0, 0, 0⟩,
  ⟨d6, .mv t68, none, 0, 0, 0⟩])
 .skip))
 (.seq (.reg false [⟨d69, .mv t6, none, 0, 0, 0⟩,
  ⟨d2, .mv t69, none, 0, 0, 0⟩,
  ⟨d3, .mv (.c .nilIface), none, 0, 0, 0⟩])
 .ret))))))
 .skip))
 (.seq (.reg false [⟨d71, .mv t0, none, 0, 0, 0⟩,
  ⟨d72, .call (.f 123) [t71, (.c (.int .i64 (10))), (.c (.int .i64 (0)))], none, 1, 0, 0⟩,
  ⟨d70, .mv t72, none, 0, 0, 0⟩,
  ⟨d73, .extract 0 t70, none, 0, 0, 0⟩,
  ⟨d74, .extract 1 t70, none, 0, 0, 0⟩,
  ⟨d9, .mv t73, none, 0, 0, 0⟩,
  ⟨d10, .mv t74, none, 0, 0, 0⟩])
 (.seq (.reg false [⟨d75, .mv t9, none, 0, 0, 0⟩,
  ⟨d76, .mv t10, none, 0, 0, 0⟩,
  ⟨d2, .mv t75, none, 0, 0, 0⟩,
  ⟨d3, .mv t76, none, 0, 0, 0⟩])
 .ret)))))⟩
theorem ok70 : GoodFn Tryz.prog kt (70, ir70) := ⟨Tryz.f70, fun _ _ => false, Tryz.func70, by kernel_rfl⟩
/- firkin/vint.From -/
def ir84 : IFn := ⟨1, [.t p2],
 (.seq (.reg false [⟨d2, .mv (.c (.pointer none)), none, 0, 0, 0⟩])
 (.seq (.reg false [⟨d3, .mv t0, none, 0, 0, 0⟩,
  ⟨d4, .build [(.slice none 0 0), (.bool false)] [(0, 1, t3)], none, 0, 0, 0⟩,
  ⟨d5, .box t4, none, 3, 0, 0⟩,
  ⟨d2, .mv t5, none, 0, 0, 0⟩])
 .ret))⟩
theorem ok84 : GoodFn Tryz.prog kt (84, ir84) := ⟨Tryz.f84, fun _ _ => false, Tryz.func84, by kernel_rfl⟩
/- (*firkin/vint.Source).Num -/
def ir139 : IFn := ⟨1, [.t p2],
 (.seq (.reg false [⟨d2, .mv (.c (.int .u64 (0))), none, 0, 0, 0⟩])
 (.seq (.seq (.reg false [⟨d7, .mv t0, none, 0, 0, 0⟩,
  ⟨d8, .call (.f 86) [t7], none, 1, 0, 0⟩,
  ⟨d9, .un .not t8, none, 0, 0, 0⟩])
 (.cond t9
 (.seq (.reg false [⟨d2, .mv (.c (.int .u64 (0))), none, 0, 0, 0⟩])
 .ret)
 .skip))
 (.seq (.reg false [⟨d10, .mv t0, none, 0, 0, 0⟩,
  ⟨d11, .nilCheck t10, none, 0, 0, 0⟩,
  ⟨d12, .faddr 0 t11, none, 0, 0, 0⟩,
  ⟨d13, .load false 1 t12, none, 1, 0, 0⟩,
  ⟨d14, .call (.f 181) [t13], none, 1, 0, 0⟩,
  ⟨d3, .mv t14, none, 0, 0, 0⟩])
 (.seq (.seq (.reg false [⟨d15, .mv t3, none, 0, 0, 0⟩,
  ⟨d16, .bin .eql .scalar t15 (.c (.int .i64 (0))), none, 0, 0, 0⟩])
 (.cond t16
 (.seq (.reg false [⟨d17, .mv t0, none, 0, 0, 0⟩,
  ⟨d18, .call (.f 140) [t17], none, 1, 0, 0⟩])
 (.seq (.reg false [⟨d2, .mv (.c (.int .u64 (0))), none, 0, 0, 0⟩])
 .ret))
 .skip))
 (.seq (.reg false [⟨d4, .mv (.c (.int .u64 (0))), none, 0, 0, 0⟩])
 (.seq (.seq (.reg false [⟨d19, .mv t0, none, 0, 0, 0⟩,
  ⟨d20, .nilCheck t19, none, 0, 0, 0⟩,
  ⟨d21, .faddr 0 t20, none, 0, 0, 0⟩,
  ⟨d22, .load false 1 t21, none, 1, 0, 0⟩,
  ⟨d23, .mv t3, none, 0, 0, 0⟩,
  ⟨d24, .slice 2 0 1 t22 none (some t23) none, none, 0, 0, 0⟩,
  ⟨d25, .len 1 t24, none, 1, 0, 0⟩,
  ⟨d26, .mv (.c (.int .i64 (0))), none, 0, 0, 0⟩])
 (.block 0 (.loop (.seq (.reg false [⟨d27, .bin .lss .scalar t26 t25, none, 0, 0, 0⟩])
 (.seq (.cond t27
 .skip
 (.exit 0))
 (.seq (.block 1 (.seq (.reg false [⟨d28, .mv t26, none, 0, 0, 0⟩,
  ⟨d29, .iaddr none 1 t24 t26, none, 0, 0, 0⟩,
  ⟨d30, .load false 1 t29, none, 1, 0, 0⟩,
  ⟨d5, .mv t28, none, 0, 0, 0⟩,
  ⟨d6, .mv t30, none, 0, 0, 0⟩])
 (.reg false [⟨d31, .mv t4, none, 0, 0, 0⟩,
  ⟨d32, .mv t6, none, 0, 0, 0⟩,
  ⟨d33, .bin .andNot .scalar t32 (.c (.int .u8 (128))), none, 0, 0, 0⟩,
  ⟨d34, .convInt .u64 t33, none, 0, 0, 0⟩,
  ⟨d35, .mv t5, none, 0, 0, 0⟩,
  ⟨d36, .bin .mul .scalar (.c (.int .i64 (7))) t35, none, 0, 0, 0⟩,
  ⟨d37, .bin .shl .scalar t34 t36, none, 0, 0, 0⟩,
  ⟨d38, .bin .or .scalar t31 t37, none, 0, 0, 0⟩,
  ⟨d4, .mv t38, none, 0, 0, 0⟩])))
 (.reg false [⟨d39, .bin .add .scalar t26 (.c (.int .i64 (1))), none, 0, 0, 0⟩,
  ⟨d26, .mv t39, none, 0, 0, 0⟩])))))))
 (.seq (.reg false [⟨d40, .mv t0, none, 0, 0, 0⟩,
  ⟨d41, .mv t0, none, 0, 0, 0⟩,
  ⟨d42, .nilCheck t41, none, 0, 0, 0⟩,
  ⟨d43, .faddr 0 t42, none, 0, 0, 0⟩,
  ⟨d44, .load false 1 t43, none, 1, 0, 0⟩,
  ⟨d45, .mv t3, none, 0, 0, 0⟩,
  ⟨d46, .slice 2 0 1 t44 (some t45) none none, none, 0, 0, 0⟩,
  ⟨d47, .nilCheck t40, none, 0, 0, 0⟩,
  ⟨d48, .faddr 0 t47, none, 0, 0, 0⟩,
  ⟨none, .store 1 t48 t46, none, 3, 0, 0⟩])
 (.seq (.reg false [⟨d49, .mv t4, none, 0, 0, 0⟩,
  ⟨d2, .mv t49, none, 0, 0, 0⟩])
 .ret))))))))⟩
theorem ok139 : GoodFn Tryz.prog kt (139, ir139) := ⟨Tryz.f139, fun _ _ => false, Tryz.func139, by kernel_rfl⟩
/- firkin/firkinlaw34.num -/
def ir18 : IFn := ⟨1, [.t p2],
 (.seq (.reg false [⟨d2, .mv (.c (.int .i64 (0))), none, 0, 0, 0⟩])
 (.seq (.reg false [⟨d3, .mv t0, none, 0, 0, 0⟩,
  ⟨d2, .mv t3, none, 0, 0, 0⟩])
 .ret))⟩
theorem ok18 : GoodFn Tryz.prog kt (18, ir18) := ⟨Tryz.f18, fun _ _ => false, Tryz.func18, by kernel_rfl⟩
/- firkin/firkinref33.Same -/
def ir12 : IFn := ⟨2, [.t p4],
 (.seq (.reg false [⟨d2, .box t0, none, 3, 0, 0⟩,
  ⟨d3, .box t1, none, 3, 0, 0⟩,
  ⟨d4, .mv (.c (.bool false)), none, 0, 0, 0⟩])
 (.seq (.seq (.reg false [⟨d9, .faddr 0 t2, none, 0, 0, 0⟩,
  ⟨d10, .load false 1 t9, none, 1, 0, 0⟩,
  ⟨d11, .faddr 0 t3, none, 0, 0, 0⟩,
  ⟨d12, .load false 1 t11, none, 1, 0, 0⟩,
  ⟨d13, .bin .neq .scalar t10 t12, none, 0, 0, 0⟩,
  ⟨d14, .mv t13, none, 0, 0, 0⟩,
  ⟨d15, .faddr 1 t2, (some (p14, false)), 0, 0, 0⟩,
  ⟨d16, .load false 1 t15, (some (p14, false)), 1, 0, 0⟩,
  ⟨d17, .faddr 1 t3, (some (p14, false)), 0, 0, 0⟩,
  ⟨d18, .load false 1 t17, (some (p14, false)), 1, 0, 0⟩,
  ⟨d19, .bin .neq .scalar t16 t18, (some (p14, false)), 0, 0, 0⟩,
  ⟨d20, .pick t14 (.c (.bool true)) t19, none, 0, 0, 0⟩,
  ⟨d21, .mv t20, none, 0, 0, 0⟩,
  ⟨d22, .faddr 2 t2, (some (p21, false)), 0, 0, 0⟩,
  ⟨d23, .load false 1 t22, (some (p21, false)), 1, 0, 0⟩,
  ⟨d24, .len 1 t23, (some (p21, false)), 1, 0, 0⟩,
  ⟨d25, .faddr 2 t3, (some (p21, false)), 0, 0, 0⟩,
  ⟨d26, .load false 1 t25, (some (p21, false)), 1, 0, 0⟩,
  ⟨d27, .len 1 t26, (some (p21, false)), 1, 0, 0⟩,
  ⟨d28, .bin .neq .scalar t24 t27, (some (p21, false)), 0, 0, 0⟩,
  ⟨d29, .pick t21 (.c (.bool true)) t28, none, 0, 0, 0⟩])
 (.cond t29
 (.seq (.reg false [⟨d4, .mv (.c (.bool false)), none, 0, 0, 0⟩])
 .ret)
 .skip))
 (.seq (.seq (.reg false [⟨d5, .mv (.c (.int .i64 (0))), none, 0, 0, 0⟩])
 (.block 0 (.loop (.seq (.seq (.reg false [⟨d30, .mv t5, none, 0, 0, 0⟩,
  ⟨d31, .faddr 2 t2, none, 0, 0, 0⟩,
  ⟨d32, .load false 1 t31, none, 1, 0, 0⟩,
  ⟨d33, .len 1 t32, none, 1, 0, 0⟩,
  ⟨d34, .bin .lss .scalar t30 t33, none, 0, 0, 0⟩])
 (.cond t34
 .skip
 (.exit 0)))
 (.seq (.block 1 (.seq (.reg true [⟨d37, .faddr 2 t2, none, 0, 0, 0⟩,
  ⟨d38, .load false 1 t37, none, 1, 0, 0⟩,
  ⟨d39, .mv t5, none, 0, 0, 0⟩,
  ⟨d40, .iaddr none 3 t38 t39, none, 0, 0, 0⟩,
  ⟨d41, .load true 3 t40, none, 1, 0, 0⟩,
  ⟨d42, .faddr 2 t3, none, 0, 0, 0⟩,
  ⟨d43, .load false 1 t42, none, 1, 0, 1⟩,
  ⟨d44, .mv t5, none, 0, 0, 0⟩,
  ⟨d45, .iaddr none 3 t43 t44, none, 0, 0, 0⟩,
  ⟨d46, .load true 3 t45, none, 1, 0, 1⟩,
  ⟨d6, .alloc [(.string (bsN [])), (.slice none 0 0), (.slice none 0 0)], none, 2, 0, 0⟩,
  ⟨d7, .alloc [(.string (bsN [])), (.slice none 0 0), (.slice none 0 0)], none, 2, 0, 0⟩,
  ⟨none, .store 3 t6 t41, none, 3, 0, 0⟩,
  ⟨none, .store 3 t7 t46, none, 3, 0, 0⟩])
 (.seq (.seq (.reg false [⟨d47, .faddr 0 t6, none, 0, 0, 0⟩,
  ⟨d48, .load false 1 t47, none, 1, 0, 0⟩,
  ⟨d49, .faddr 0 t7, none, 0, 0, 0⟩,
  ⟨d50, .load false 1 t49, none, 1, 0, 0⟩,
  ⟨d51, .bin .neq .scalar t48 t50, none, 0, 0, 0⟩,
  ⟨d52, .mv t51, none, 0, 0, 0⟩,
  ⟨d53, .faddr 1 t6, (some (p52, false)), 0, 0, 0⟩,
  ⟨d54, .load false 1 t53, (some (p52, false)), 1, 0, 0⟩,
  ⟨d55, .faddr 1 t7, (some (p52, false)), 0, 0, 0⟩,
  ⟨d56, .load false 1 t55, (some (p52, false)), 1, 0, 0⟩,
  ⟨d57, .call (.f 34) [t54, t56], (some (p52, false)), 1, 0, 0⟩,
  ⟨d58, .un .not t57, (some (p52, false)), 0, 0, 0⟩,
  ⟨d59, .pick t52 (.c (.bool true)) t58, none, 0, 0, 0⟩,
  ⟨d60, .mv t59, none, 0, 0, 0⟩,
  ⟨d61, .faddr 2 t6, (some (p60, false)), 0, 0, 0⟩,
  ⟨d62, .load false 1 t61, (some (p60, false)), 1, 0, 0⟩,
  ⟨d63, .len 1 t62, (some (p60, false)), 1, 0, 0⟩,
  ⟨d64, .faddr 2 t7, (some (p60, false)), 0, 0, 0⟩,
  ⟨d65, .load false 1 t64, (some (p60, false)), 1, 0, 0⟩,
  ⟨d66, .len 1 t65, (some (p60, false)), 1, 0, 0⟩,
  ⟨d67, .bin .neq .scalar t63 t66, (some (p60, false)), 0, 0, 0⟩,
  ⟨d68, .pick t60 (.c (.bool true)) t67, none, 0, 0, 0⟩])
 (.cond t68
 (.seq (.reg false [⟨d4, .mv (.c (.bool false)), none, 0, 0, 0⟩])
 .ret)
 .skip))
 (.seq (.reg false [⟨d8, .mv (.c (.int .i64 (0))), none, 0, 0, 0⟩])
 (.block 2 (.loop (.seq (.seq (.reg false [⟨d69, .mv t8, none, 0, 0, 0⟩,
  ⟨d70, .faddr 2 t6, none, 0, 0, 0⟩,
  ⟨d71, .load false 1 t70, none, 1, 0, 0⟩,
  ⟨d72, .len 1 t71, none, 1, 0, 0⟩,
  ⟨d73, .bin .lss .scalar t69 t72, none, 0, 0, 0⟩])
 (.cond t73
 .skip
 (.exit 2)))
 (.seq (.block 3 (.seq (.reg true [⟨d76, .faddr 2 t6, none, 0, 0, 0⟩,
  ⟨d77, .load false 1 t76, none, 1, 0, 0⟩,
  ⟨d78, .mv t8, none, 0, 0, 0⟩,
  ⟨d79, .iaddr none 6 t77 t78, none, 0, 0, 0⟩,
  ⟨d80, .load true 6 t79, none, 1, 0, 0⟩,
  ⟨d81, .faddr 2 t7, none, 0, 0, 0⟩,
  ⟨d82, .load false 1 t81, none, 1, 0, 0⟩,
  ⟨d83, .mv t8, none, 0, 0, 0⟩,
  ⟨d84, .iaddr none 6 t82 t83, none, 0, 0, 0⟩,
  ⟨d85, .load true 6 t84, none, 1, 0, 0⟩,
  ⟨d86, .bin .neq (.cells [.i, .i, .i, .i, .i, .i]) t80 t85, none, 0, 0, 0⟩])
 (.cond t86
 (.seq (.reg false [⟨d4, .mv (.c (.bool false)), none, 0, 0, 0⟩])
 .ret)
 .skip)))
 (.reg false [⟨d74, .mv t8, none, 0, 0, 0⟩,
  ⟨d75, .bin .add .scalar t74 (.c (.int .i64 (1))), none, 0, 0, 0⟩,
  ⟨d8, .mv t75, none, 0, 0, 0⟩])))))))))
 (.reg false [⟨d35, .mv t5, none, 0, 0, 0⟩,
  ⟨d36, .bin .add .scalar t35 (.c (.int .i64 (1))), none, 0, 0, 0⟩,
  ⟨d5, .mv t36, none, 0, 0, 0⟩]))))))
 (.seq (.reg false [⟨d4, .mv (.c (.bool true)), none, 0, 0, 0⟩])
 .ret))))⟩
theorem ok12 : GoodFn Tryz.prog kt (12, ir12) := ⟨Tryz.f12, fun _ _ => false, Tryz.func12, by kernel_rfl⟩
end Go.Proofs.YtjlaccjneaomgaaGreatDoor
