/- Resolved functions, part 1. Written by program. -/
import Derived.Test.YtjlaccjneaomgaaGreatDoorFkT0
namespace Go.Proofs.YtjlaccjneaomgaaGreatDoor
open Go Go.Fk
/- firkin/firkinlaw34.live -/
def ir7 : IFn := ⟨0, [.t p0],
 (.seq (.reg false [⟨d0, .mv (.c (.bool false)), none, 0, 0, 0⟩])
 (.seq (.reg false [⟨d6, .call (.f 17) [], none, 3, 0, 0⟩,
  ⟨d1, .mv t6, none, 0, 0, 0⟩])
 (.seq (.reg false [⟨d7, .build [(.int .i64 (0)), (.int .i64 (0)), (.slice none 0 0)] [(0, 1, (.c (.int .i64 (1)))), (1, 1, (.c (.int .i64 (1))))], none, 0, 0, 0⟩,
  ⟨d2, .alloc [(.int .i64 (0)), (.int .i64 (0)), (.slice none 0 0)], none, 2, 0, 0⟩,
  ⟨none, .store 3 t2 t7, none, 3, 0, 0⟩])
 (.seq (.reg false [⟨d8, .mv t1, none, 0, 0, 0⟩,
  ⟨d9, .load true 3 t2, none, 1, 0, 0⟩,
  ⟨d10, .call (.f 19) [t8, t9, (.c (.int .i64 (3)))], none, 3, 0, 0⟩,
  ⟨d3, .mv t10, none, 0, 0, 0⟩])
 (.seq (.reg false [⟨d12, .mv t1, none, 0, 0, 0⟩,
  ⟨d13, .call (.f 16) [t12, (.c (.int .i64 (3)))], none, 3, 0, 0⟩,
  ⟨d11, .mv t13, none, 0, 0, 0⟩,
  ⟨d14, .extract 0 t11, none, 0, 0, 0⟩,
  ⟨d15, .extract 1 t11, none, 0, 0, 0⟩,
  ⟨d4, .alloc [(.int .i64 (0)), (.int .i64 (0)), (.slice none 0 0)], none, 2, 0, 0⟩,
  ⟨none, .store 3 t4 t14, none, 3, 0, 0⟩,
  ⟨d5, .mv t15, none, 0, 0, 0⟩])
 (.seq (.reg false [⟨d16, .call (.f 8) [(.c (.int .i64 (12)))], none, 1, 0, 0⟩,
  ⟨d17, .bin .eql .scalar t16 (.c (.string (bsN [118, 47, 48, 48, 48, 48, 48, 48, 48, 48, 49, 50]))), none, 0, 0, 0⟩,
  ⟨d18, .mv t17, none, 0, 0, 0⟩,
  ⟨d19, .mv t3, (some (p18, true)), 0, 0, 0⟩,
  ⟨d20, .call (.f 18) [t19], (some (p18, true)), 1, 0, 0⟩,
  ⟨d21, .mv t5, (some (p18, true)), 0, 0, 0⟩,
  ⟨d22, .call (.f 18) [t21], (some (p18, true)), 1, 0, 0⟩,
  ⟨d23, .bin .add .scalar t20 t22, (some (p18, true)), 0, 0, 0⟩,
  ⟨d24, .bin .eql .scalar t23 (.c (.int .i64 (0))), (some (p18, true)), 0, 0, 0⟩,
  ⟨d25, .pick t18 t24 (.c (.bool false)), none, 0, 0, 0⟩,
  ⟨d26, .mv t25, none, 0, 0, 0⟩,
  ⟨d27, .load true 3 t4, (some (p26, true)), 1, 0, 0⟩,
  ⟨d28, .load true 3 t2, (some (p26, true)), 1, 0, 0⟩,
  ⟨d29, .call (.f 12) [t27, t28], (some (p26, true)), 1, 0, 0⟩,
  ⟨d30, .pick t26 t29 (.c (.bool false)), none, 0, 0, 0⟩,
  ⟨d0, .mv t30, none, 0, 0, 0⟩])
 .ret))))))⟩
theorem ok7 : GoodFn Tryz.prog kt (7, ir7) := ⟨Tryz.f7, fun _ _ => false, Tryz.func7, by kernel_rfl⟩
/- firkin/manif.within -/
def ir144 : IFn := ⟨3, [.t p6],
 (.seq (.reg false [⟨d6, .mv (.c (.bool false)), none, 0, 0, 0⟩])
 (.seq (.reg false [⟨d7, .mv t0, none, 0, 0, 0⟩,
  ⟨d8, .mv t1, none, 0, 0, 0⟩,
  ⟨d9, .bin .geq .scalar t7 t8, none, 0, 0, 0⟩,
  ⟨d10, .mv t9, none, 0, 0, 0⟩,
  ⟨d11, .mv t0, (some (p10, true)), 0, 0, 0⟩,
  ⟨d12, .mv t2, (some (p10, true)), 0, 0, 0⟩,
  ⟨d13, .bin .leq .scalar t11 t12, (some (p10, true)), 0, 0, 0⟩,
  ⟨d14, .pick t10 t13 (.c (.bool false)), none, 0, 0, 0⟩,
  ⟨d6, .mv t14, none, 0, 0, 0⟩])
 .ret))⟩
theorem ok144 : GoodFn Tryz.prog kt (144, ir144) := ⟨Tryz.f144, fun _ _ => false, Tryz.func144, by kernel_rfl⟩
/- firkin/manif.Objects -/
def ir146 : IFn := ⟨1, [.t p2],
 (.seq (.reg false [⟨d1, .box t0, none, 3, 0, 0⟩,
  ⟨d2, .mv (.c (.slice none 0 0)), none, 0, 0, 0⟩])
 (.seq (.reg false [⟨d3, .mv (.c (.slice none 0 0)), none, 0, 0, 0⟩])
 (.seq (.seq (.reg false [⟨d8, .faddr 2 t1, none, 0, 0, 0⟩,
  ⟨d9, .load false 1 t8, none, 1, 0, 0⟩,
  ⟨d10, .len 1 t9, none, 1, 0, 0⟩,
  ⟨d11, .mv (.c (.int .i64 (0))), none, 0, 0, 0⟩])
 (.block 0 (.loop (.seq (.reg false [⟨d12, .bin .lss .scalar t11 t10, none, 0, 0, 0⟩])
 (.seq (.cond t12
 .skip
 (.exit 0))
 (.seq (.block 1 (.seq (.reg false [⟨d13, .iaddr none 3 t9 t11, none, 0, 0, 0⟩,
  ⟨d14, .load true 3 t13, none, 1, 0, 0⟩,
  ⟨d5, .alloc [(.string (bsN [])), (.slice none 0 0), (.slice none 0 0)], none, 2, 0, 0⟩,
  ⟨none, .store 3 t5 t14, none, 3, 0, 0⟩])
 (.seq (.reg false [⟨d15, .faddr 2 t5, none, 0, 0, 0⟩,
  ⟨d16, .load false 1 t15, none, 1, 0, 0⟩,
  ⟨d17, .len 1 t16, none, 1, 0, 0⟩,
  ⟨d18, .mv (.c (.int .i64 (0))), none, 0, 0, 0⟩])
 (.block 2 (.loop (.seq (.reg false [⟨d19, .bin .lss .scalar t18 t17, none, 0, 0, 0⟩])
 (.seq (.cond t19
 .skip
 (.exit 2))
 (.seq (.block 3 (.seq (.reg false [⟨d20, .iaddr none 6 t16 t18, none, 0, 0, 0⟩,
  ⟨d21, .load true 6 t20, none, 1, 0, 0⟩,
  ⟨d7, .alloc [(.int .i64 (0)), (.int .i64 (0)), (.int .i64 (0)), (.int .i64 (0)), (.int .i64 (0)), (.int .i64 (0))], none, 2, 0, 0⟩,
  ⟨none, .store 6 t7 t21, none, 3, 0, 0⟩])
 (.seq (.reg false [⟨d22, .mv t3, none, 0, 0, 0⟩,
  ⟨d23, .faddr 0 t7, none, 0, 0, 0⟩,
  ⟨d24, .load false 1 t23, none, 1, 0, 0⟩,
  ⟨d25, .lit 1 1 (.int .i64 (0)) [(0, t24)], none, 0, 0, 0⟩,
  ⟨d26, .append false 1 8 none t22 t25, none, 3, 0, 0⟩,
  ⟨d3, .mv t26, none, 0, 0, 0⟩])
 (.seq (.reg false [⟨d27, .faddr 4 t7, none, 0, 0, 0⟩,
  ⟨d28, .load false 1 t27, none, 1, 0, 0⟩,
  ⟨d29, .bin .neq .scalar t28 (.c (.int .i64 (0))), none, 0, 0, 0⟩])
 (.cond t29
 (.reg false [⟨d30, .mv t3, none, 0, 0, 0⟩,
  ⟨d31, .faddr 4 t7, none, 0, 0, 0⟩,
  ⟨d32, .load false 1 t31, none, 1, 0, 0⟩,
  ⟨d33, .lit 1 1 (.int .i64 (0)) [(0, t32)], none, 0, 0, 0⟩,
  ⟨d34, .append false 1 8 none t30 t33, none, 3, 0, 0⟩,
  ⟨d3, .mv t34, none, 0, 0, 0⟩])
 .skip)))))
 (.reg false [⟨d35, .bin .add .scalar t18 (.c (.int .i64 (1))), none, 0, 0, 0⟩,
  ⟨d18, .mv t35, none, 0, 0, 0⟩])))))))))
 (.reg false [⟨d36, .bin .add .scalar t11 (.c (.int .i64 (1))), none, 0, 0, 0⟩,
  ⟨d11, .mv t36, none, 0, 0, 0⟩])))))))
 (.seq (.reg false [⟨d37, .mv t3, none, 0, 0, 0⟩,
  ⟨d38, .call (.f 188) [t37], none, 1, 0, 0⟩])
 (.seq (.reg false [⟨d39, .mv t3, none, 0, 0, 0⟩,
  ⟨d2, .mv t39, none, 0, 0, 0⟩])
 .ret)))))⟩
theorem ok146 : GoodFn Tryz.prog kt (146, ir146) := ⟨Tryz.f146, fun _ _ => false, Tryz.func146, by kernel_rfl⟩
/- slices.insertionSortOrdered[int] -/
def ir234 : IFn := ⟨3, [],
 (.seq (.reg false [⟨d8, .mv t1, none, 0, 0, 0⟩,
  ⟨d9, .bin .add .scalar t8 (.c (.int .i64 (1))), none, 0, 0, 0⟩,
  ⟨d6, .mv t9, none, 0, 0, 0⟩])
 (.block 0 (.loop (.seq (.seq (.reg false [⟨d10, .mv t6, none, 0, 0, 0⟩,
  ⟨d11, .mv t2, none, 0, 0, 0⟩,
  ⟨d12, .bin .lss .scalar t10 t11, none, 0, 0, 0⟩])
 (.cond t12
 .skip
 (.exit 0)))
 (.seq (.block 1 (.seq (.reg false [⟨d15, .mv t6, none, 0, 0, 0⟩,
  ⟨d7, .mv t15, none, 0, 0, 0⟩])
 (.block 2 (.loop (.seq (.seq (.reg true [⟨d16, .mv t7, none, 0, 0, 0⟩,
  ⟨d17, .mv t1, none, 0, 0, 0⟩,
  ⟨d18, .bin .gtr .scalar t16 t17, none, 0, 0, 0⟩,
  ⟨d19, .mv t18, none, 0, 0, 0⟩,
  ⟨d20, .mv t0, (some (p19, true)), 0, 0, 0⟩,
  ⟨d21, .mv t7, (some (p19, true)), 0, 0, 0⟩,
  ⟨d22, .iaddr none 1 t20 t21, (some (p19, true)), 0, 0, 0⟩,
  ⟨d23, .load false 1 t22, (some (p19, true)), 1, 0, 0⟩,
  ⟨d24, .mv t0, (some (p19, true)), 0, 0, 0⟩,
  ⟨d25, .mv t7, (some (p19, true)), 0, 0, 0⟩,
  ⟨d26, .bin .sub .scalar t25 (.c (.int .i64 (1))), (some (p19, true)), 0, 0, 0⟩,
  ⟨d27, .iaddr none 1 t24 t26, (some (p19, true)), 0, 0, 0⟩,
  ⟨d28, .load false 1 t27, (some (p19, true)), 1, 0, 0⟩,
  ⟨d29, .call (.f 240) [t23, t28], (some (p19, true)), 1, 0, 0⟩,
  ⟨d30, .pick t19 t29 (.c (.bool false)), none, 0, 0, 0⟩])
 (.cond t30
 .skip
 (.exit 2)))
 (.seq (.block 3 (.reg true [⟨d33, .mv t0, none, 0, 0, 0⟩,
  ⟨d34, .mv t7, none, 0, 0, 0⟩,
  ⟨d35, .mv t0, none, 0, 0, 0⟩,
  ⟨d36, .mv t7, none, 0, 0, 0⟩,
  ⟨d37, .bin .sub .scalar t36 (.c (.int .i64 (1))), none, 0, 0, 0⟩,
  ⟨d38, .mv t0, none, 0, 0, 0⟩,
  ⟨d39, .mv t7, none, 0, 0, 0⟩,
  ⟨d40, .bin .sub .scalar t39 (.c (.int .i64 (1))), none, 0, 0, 0⟩,
  ⟨d41, .iaddr none 1 t38 t40, none, 0, 0, 0⟩,
  ⟨d42, .load false 1 t41, none, 1, 0, 0⟩,
  ⟨d43, .mv t0, none, 0, 0, 0⟩,
  ⟨d44, .mv t7, none, 0, 0, 0⟩,
  ⟨d45, .iaddr none 1 t43 t44, none, 0, 0, 0⟩,
  ⟨d46, .load false 1 t45, none, 1, 0, 0⟩,
  ⟨d47, .iaddr none 1 t33 t34, none, 0, 0, 0⟩,
  ⟨none, .store 1 t47 t42, none, 3, 0, 0⟩,
  ⟨d48, .iaddr none 1 t35 t37, none, 0, 0, 0⟩,
  ⟨none, .store 1 t48 t46, none, 3, 0, 0⟩]))
 (.reg false [⟨d31, .mv t7, none, 0, 0, 0⟩,
  ⟨d32, .bin .sub .scalar t31 (.c (.int .i64 (1))), none, 0, 0, 0⟩,
  ⟨d7, .mv t32, none, 0, 0, 0⟩])))))))
 (.reg false [⟨d13, .mv t6, none, 0, 0, 0⟩,
  ⟨d14, .bin .add .scalar t13 (.c (.int .i64 (1))), none, 0, 0, 0⟩,
  ⟨d6, .mv t14, none, 0, 0, 0⟩]))))))⟩
theorem ok234 : GoodFn Tryz.prog kt (234, ir234) := ⟨Tryz.f234, fun _ _ => false, Tryz.func234, by kernel_rfl⟩
/- firkin/vint.Num -/
def ir148 : IFn := ⟨1, [.t p2],
 (.seq (.reg false [⟨d2, .mv (.c (.slice none 0 0)), none, 0, 0, 0⟩])
 (.seq (.reg false [⟨d6, .mv t0, none, 0, 0, 0⟩,
  ⟨d7, .call (.f 189) [t6], none, 1, 0, 0⟩,
  ⟨d8, .bin .add .scalar t7 (.c (.int .i64 (7))), none, 0, 0, 0⟩,
  ⟨d9, .bin .sub .scalar t8 (.c (.int .i64 (1))), none, 0, 0, 0⟩,
  ⟨d10, .bin .quo .scalar t9 (.c (.int .i64 (7))), none, 0, 0, 0⟩,
  ⟨d11, .minmax true [(.c (.int .i64 (1))), t10], none, 0, 0, 0⟩,
  ⟨d3, .mv t11, none, 0, 0, 0⟩])
 (.seq (.reg false [⟨d12, .mv t3, none, 0, 0, 0⟩,
  ⟨d13, .mkslice 1 1 (.int .u8 (0)) t12 t12, none, 3, 0, 0⟩,
  ⟨d4, .mv t13, none, 0, 0, 0⟩])
 (.seq (.seq (.reg false [⟨d14, .mv t4, none, 0, 0, 0⟩,
  ⟨d15, .len 1 t14, none, 1, 0, 0⟩,
  ⟨d16, .mv (.c (.int .i64 (0))), none, 0, 0, 0⟩])
 (.block 0 (.loop (.seq (.reg false [⟨d17, .bin .lss .scalar t16 t15, none, 0, 0, 0⟩])
 (.seq (.cond t17
 .skip
 (.exit 0))
 (.seq (.block 1 (.seq (.reg false [⟨d18, .mv t16, none, 0, 0, 0⟩,
  ⟨d5, .mv t18, none, 0, 0, 0⟩])
 (.reg false [⟨d19, .mv t4, none, 0, 0, 0⟩,
  ⟨d20, .mv t5, none, 0, 0, 0⟩,
  ⟨d21, .mv t0, none, 0, 0, 0⟩,
  ⟨d22, .mv t5, none, 0, 0, 0⟩,
  ⟨d23, .bin .mul .scalar (.c (.int .i64 (7))) t22, none, 0, 0, 0⟩,
  ⟨d24, .bin .shr .scalar t21 t23, none, 0, 0, 0⟩,
  ⟨d25, .convInt .u8 t24, none, 0, 0, 0⟩,
  ⟨d26, .bin .andNot .scalar t25 (.c (.int .u8 (128))), none, 0, 0, 0⟩,
  ⟨d27, .bin .or .scalar t26 (.c (.int .u8 (128))), none, 0, 0, 0⟩,
  ⟨d28, .iaddr none 1 t19 t20, none, 0, 0, 0⟩,
  ⟨none, .store 1 t28 t27, none, 3, 0, 0⟩])))
 (.reg false [⟨d29, .bin .add .scalar t16 (.c (.int .i64 (1))), none, 0, 0, 0⟩,
  ⟨d16, .mv t29, none, 0, 0, 0⟩])))))))
 (.seq (.reg false [⟨d30, .mv t4, none, 0, 0, 0⟩,
  ⟨d31, .mv t3, none, 0, 0, 0⟩,
  ⟨d32, .bin .sub .scalar t31 (.c (.int .i64 (1))), none, 0, 0, 0⟩,
  ⟨d33, .iaddr none 1 t30 t32, none, 0, 0, 0⟩,
  ⟨d34, .load false 1 t33, none, 1, 0, 0⟩,
  ⟨d35, .bin .andNot .scalar t34 (.c (.int .u8 (128))), none, 0, 0, 0⟩,
  ⟨d36, .iaddr none 1 t30 t32, none, 0, 0, 0⟩,
  ⟨none, .store 1 t36 t35, none, 3, 0, 0⟩])
 (.seq (.reg false [⟨d37, .mv t4, none, 0, 0, 0⟩,
  ⟨d2, .mv t37, none, 0, 0, 0⟩])
 .ret))))))⟩
theorem ok148 : GoodFn Tryz.prog kt (148, ir148) := ⟨Tryz.f148, fun _ _ => false, Tryz.func148, by kernel_rfl⟩
/- firkin/crc.half -/
def ir232 : IFn := ⟨1, [.t p2],
 (.seq (.reg false [⟨d2, .mv (.c (.int .u32 (0))), none, 0, 0, 0⟩])
 (.seq (.reg false [⟨d3, .mv t0, none, 0, 0, 0⟩,
  ⟨d4, .bin .shr .scalar t3 (.c (.int .u64 (4))), none, 0, 0, 0⟩,
  ⟨d5, .build [(.int .u32 (0)), (.int .u32 (0)), (.int .u32 (0)), (.int .u32 (0)), (.int .u32 (0)), (.int .u32 (0)), (.int .u32 (0)), (.int .u32 (0)), (.int .u32 (0)), (.int .u32 (0)), (.int .u32 (0)), (.int .u32 (0)), (.int .u32 (0)), (.int .u32 (0)), (.int .u32 (0)), (.int .u32 (0))] [(0, 1, (.c (.int .u32 (0)))), (1, 1, (.c (.int .u32 (274646895)))), (2, 1, (.c (.int .u32 (549293790)))), (3, 1, (.c (.int .u32 (820201905)))), (4, 1, (.c (.int .u32 (1098587580)))), (5, 1, (.c (.int .u32 (1361435347)))), (6, 1, (.c (.int .u32 (1640403810)))), (7, 1, (.c (.int .u32 (1905808397)))), (8, 1, (.c (.int .u32 (2197175160)))), (9, 1, (.c (.int .u32 (2460548119)))), (10, 1, (.c (.int .u32 (2722870694)))), (11, 1, (.c (.int .u32 (2987750089)))), (12, 1, (.c (.int .u32 (3280807620)))), (13, 1, (.c (.int .u32 (3553878443)))), (14, 1, (.c (.int .u32 (3811616794)))), (15, 1, (.c (.int .u32 (4084100981))))], none, 0, 0, 0⟩,
  ⟨d6, .mv t0, none, 0, 0, 0⟩,
  ⟨d7, .bin .and .scalar t6 (.c (.int .u32 (15))), none, 0, 0, 0⟩,
  ⟨d8, .index (some (16, false, 1)) t5 t7, none, 0, 0, 0⟩,
  ⟨d9, .bin .xor .scalar t4 t8, none, 0, 0, 0⟩,
  ⟨d2, .mv t9, none, 0, 0, 0⟩])
 .ret))⟩
theorem ok232 : GoodFn Tryz.prog kt (232, ir232) := ⟨Tryz.f232, fun _ _ => false, Tryz.func232, by kernel_rfl⟩
/- internal/strconv.FormatInt -/
def ir117 : IFn := ⟨2, [.t p4],
 (.seq (.reg false [⟨d4, .mv (.c (.string (bsN []))), none, 0, 0, 0⟩])
 (.seq (.seq (.reg false [⟨d10, .mv t1, none, 0, 0, 0⟩,
  ⟨d11, .bin .eql .scalar t10 (.c (.int .i64 (10))), none, 0, 0, 0⟩])
 (.cond t11
 (.seq (.seq (.reg false [⟨d12, .mv t0, none, 0, 0, 0⟩,
  ⟨d13, .bin .leq .scalar (.c (.int .i64 (0))) t12, none, 0, 0, 0⟩,
  ⟨d14, .mv t13, none, 0, 0, 0⟩,
  ⟨d15, .mv t0, (some (p14, true)), 0, 0, 0⟩,
  ⟨d16, .bin .lss .scalar t15 (.c (.int .i64 (100))), (some (p14, true)), 0, 0, 0⟩,
  ⟨d17, .pick t14 t16 (.c (.bool false)), none, 0, 0, 0⟩])
 (.cond t17
 (.seq (.reg false [⟨d18, .mv t0, none, 0, 0, 0⟩,
  ⟨d19, .call (.f 168) [t18], none, 1, 0, 0⟩,
  ⟨d4, .mv t19, none, 0, 0, 0⟩])
 .ret)
 .skip))
 (.seq (.reg false [⟨d5, .alloc [(.int .u8 (0)), (.int .u8 (0)), (.int .u8 (0)), (.int .u8 (0)), (.int .u8 (0)), (.int .u8 (0)), (.int .u8 (0)), (.int .u8 (0)), (.int .u8 (0)), (.int .u8 (0)), (.int .u8 (0)), (.int .u8 (0)), (.int .u8 (0)), (.int .u8 (0)), (.int .u8 (0)), (.int .u8 (0)), (.int .u8 (0)), (.int .u8 (0)), (.int .u8 (0)), (.int .u8 (0)), (.int .u8 (0)), (.int .u8 (0)), (.int .u8 (0)), (.int .u8 (0))], none, 2, 0, 0⟩])
 (.seq (.reg false [⟨d20, .mv t0, none, 0, 0, 0⟩,
  ⟨d21, .convInt .u64 t20, none, 0, 0, 0⟩,
  ⟨d6, .mv t21, none, 0, 0, 0⟩])
 (.seq (.seq (.reg false [⟨d22, .mv t0, none, 0, 0, 0⟩,
  ⟨d23, .bin .lss .scalar t22 (.c (.int .i64 (0))), none, 0, 0, 0⟩])
 (.cond t23
 (.reg false [⟨d24, .mv t6, none, 0, 0, 0⟩,
  ⟨d25, .un .neg t24, none, 0, 0, 0⟩,
  ⟨d6, .mv t25, none, 0, 0, 0⟩])
 .skip))
 (.seq (.reg false [⟨d26, .mv t6, none, 0, 0, 0⟩,
  ⟨d27, .call (.f 169) [t26], none, 1, 0, 0⟩,
  ⟨d7, .mv t27, none, 0, 0, 0⟩])
 (.seq (.reg false [⟨d28, .mv t7, none, 0, 0, 0⟩,
  ⟨d29, .bin .add .scalar (.c (.int .i64 (1))) t28, none, 0, 0, 0⟩,
  ⟨d30, .slice 1 24 1 t5 (some (.c (.int .i64 (1)))) (some t29) none, none, 0, 0, 0⟩,
  ⟨d31, .mv t6, none, 0, 0, 0⟩,
  ⟨d32, .call (.f 170) [t30, t31], none, 1, 0, 0⟩])
 (.seq (.seq (.reg false [⟨d33, .mv t0, none, 0, 0, 0⟩,
  ⟨d34, .bin .lss .scalar t33 (.c (.int .i64 (0))), none, 0, 0, 0⟩])
 (.cond t34
 (.seq (.reg false [⟨d35, .iaddr (some 24) 1 t5 (.c (.int .i64 (0))), none, 0, 0, 0⟩,
  ⟨none, .store 1 t35 (.c (.int .u8 (45))), none, 3, 0, 0⟩])
 (.seq (.reg false [⟨d36, .mv t7, none, 0, 0, 0⟩,
  ⟨d37, .bin .add .scalar (.c (.int .i64 (1))) t36, none, 0, 0, 0⟩,
  ⟨d38, .slice 1 24 1 t5 none (some t37) none, none, 0, 0, 0⟩,
  ⟨d39, .convStr false t38, none, 1, 0, 0⟩,
  ⟨d4, .mv t39, none, 0, 0, 0⟩])
 .ret))
 .skip))
 (.seq (.reg false [⟨d40, .mv t7, none, 0, 0, 0⟩,
  ⟨d41, .bin .add .scalar (.c (.int .i64 (1))) t40, none, 0, 0, 0⟩,
  ⟨d42, .slice 1 24 1 t5 (some (.c (.int .i64 (1)))) (some t41) none, none, 0, 0, 0⟩,
  ⟨d43, .convStr false t42, none, 1, 0, 0⟩,
  ⟨d4, .mv t43, none, 0, 0, 0⟩])
 .ret))))))))
 .skip))
 (.seq (.reg false [⟨d45, .mv t0, none, 0, 0, 0⟩,
  ⟨d46, .convInt .u64 t45, none, 0, 0, 0⟩,
  ⟨d47, .mv t1, none, 0, 0, 0⟩,
  ⟨d48, .mv t0, none, 0, 0, 0⟩,
  ⟨d49, .bin .lss .scalar t48 (.c (.int .i64 (0))), none, 0, 0, 0⟩,
  ⟨d50, .call (.f 171) [(.c (.slice none 0 0)), t46, t47, t49, (.c (.bool false))], none, 1, 0, 0⟩,
  ⟨d44, .mv t50, none, 0, 0, 0⟩,
  ⟨d51, .extract 0 t44, none, 0, 0, 0⟩,
  ⟨d52, .extract 1 t44, none, 0, 0, 0⟩,
  ⟨d8, .mv t51, none, 0, 0, 0⟩,
  ⟨d9, .mv t52, none, 0, 0, 0⟩])
 (.seq (.reg false [⟨d53, .mv t9, none, 0, 0, 0⟩,
  ⟨d4, .mv t53, none, 0, 0, 0⟩])
 .ret))))⟩
theorem ok117 : GoodFn Tryz.prog kt (117, ir117) := ⟨Tryz.f117, fun _ _ => false, Tryz.func117, by kernel_rfl⟩
/- firkin/retry.Do -/
def ir78 : IFn := ⟨2, [.t p4, .t p5],
 (.seq (.reg false [⟨d4, .mv (.c (.int .i64 (0))), none, 0, 0, 0⟩,
  ⟨d5, .mv (.c (.int .i64 (0))), none, 0, 0, 0⟩])
 (.seq (.block 0 (.seq (.reg false [⟨d9, .mv t1, none, 0, 0, 0⟩,
  ⟨d10, .bin .eql (.ref .func) t9 (.c .nilFunc), none, 0, 0, 0⟩,
  ⟨d8, .mv t10, none, 0, 0, 0⟩])
 (.cond t8
 (.seq (.reg false [⟨d4, .mv (.c (.int .i64 (9))), none, 0, 0, 0⟩,
  ⟨d5, .mv (.c (.int .i64 (0))), none, 0, 0, 0⟩])
 .ret)
 (.seq (.reg false [⟨d12, .mv t0, none, 0, 0, 0⟩,
  ⟨d13, .bin .lss .scalar t12 (.c (.int .i64 (1))), none, 0, 0, 0⟩,
  ⟨d14, .mv t13, none, 0, 0, 0⟩,
  ⟨d15, .mv t0, (some (p14, false)), 0, 0, 0⟩,
  ⟨d16, .bin .gtr .scalar t15 (.c (.int .i64 (8))), (some (p14, false)), 0, 0, 0⟩,
  ⟨d17, .pick t14 (.c (.bool true)) t16, none, 0, 0, 0⟩,
  ⟨d11, .mv t17, none, 0, 0, 0⟩])
 (.cond t11
 (.seq (.reg false [⟨d4, .mv (.c (.int .i64 (1))), none, 0, 0, 0⟩,
  ⟨d5, .mv (.c (.int .i64 (0))), none, 0, 0, 0⟩])
 .ret)
 .skip)))))
 (.seq (.reg false [⟨d6, .mv (.c (.int .i64 (11))), none, 0, 0, 0⟩,
  ⟨d7, .mv (.c (.int .i64 (0))), none, 0, 0, 0⟩])
 (.seq (.block 1 (.loop (.seq (.seq (.reg false [⟨d18, .mv t7, none, 0, 0, 0⟩,
  ⟨d19, .mv t0, none, 0, 0, 0⟩,
  ⟨d20, .bin .lss .scalar t18 t19, none, 0, 0, 0⟩,
  ⟨d21, .mv t20, none, 0, 0, 0⟩,
  ⟨d22, .mv t6, (some (p21, true)), 0, 0, 0⟩,
  ⟨d23, .bin .eql .scalar t22 (.c (.int .i64 (11))), (some (p21, true)), 0, 0, 0⟩,
  ⟨d24, .pick t21 t23 (.c (.bool false)), none, 0, 0, 0⟩])
 (.cond t24
 .skip
 (.exit 1)))
 (.block 2 (.seq (.reg false [⟨d25, .mv t1, none, 0, 0, 0⟩,
  ⟨d26, .call t25 [], none, 3, 0, 0⟩,
  ⟨d6, .mv t26, none, 0, 0, 0⟩])
 (.reg false [⟨d27, .mv t7, none, 0, 0, 0⟩,
  ⟨d28, .bin .add .scalar t27 (.c (.int .i64 (1))), none, 0, 0, 0⟩,
  ⟨d7, .mv t28, none, 0, 0, 0⟩]))))))
 (.seq (.reg false [⟨d29, .mv t6, none, 0, 0, 0⟩,
  ⟨d30, .mv t7, none, 0, 0, 0⟩,
  ⟨d4, .mv t29, none, 0, 0, 0⟩,
  ⟨d5, .mv t30, none, 0, 0, 0⟩])
 .ret)))))⟩
theorem ok78 : GoodFn Tryz.prog kt (78, ir78) := ⟨Tryz.f78, fun _ _ => false, Tryz.func78, by kernel_rfl⟩
/- (*firkin/world.World).ask -/
def ir110 : IFn := ⟨3, [.t p6],
 (.seq (.reg false [⟨d6, .mv (.c (.int .i64 (0))), none, 0, 0, 0⟩])
 (.seq (.seq (.reg false [⟨d8, .mv t0, none, 0, 0, 0⟩,
  ⟨d9, .call (.f 49) [t8], none, 1, 0, 0⟩,
  ⟨d10, .un .not t9, none, 0, 0, 0⟩])
 (.cond t10
 (.seq (.reg false [⟨d6, .mv (.c (.int .i64 (9))), none, 0, 0, 0⟩])
 .ret)
 .skip))
 (.seq (.seq (.reg false [⟨d11, .mv t1, none, 0, 0, 0⟩,
  ⟨d12, .un .not t11, none, 0, 0, 0⟩])
 (.cond t12
 (.seq (.reg false [⟨d6, .mv (.c (.int .i64 (1))), none, 0, 0, 0⟩])
 .ret)
 .skip))
 (.seq (.seq (.reg false [⟨d13, .mv t0, none, 0, 0, 0⟩,
  ⟨d14, .call (.f 163) [t13], none, 3, 0, 0⟩,
  ⟨d7, .mv t14, none, 0, 0, 0⟩])
 (.seq (.reg false [⟨d15, .mv t7, none, 0, 0, 0⟩,
  ⟨d16, .bin .neq .scalar t15 (.c (.int .i64 (0))), none, 0, 0, 0⟩])
 (.cond t16
 (.seq (.reg false [⟨d17, .mv t7, none, 0, 0, 0⟩,
  ⟨d6, .mv t17, none, 0, 0, 0⟩])
 .ret)
 .skip)))
 (.seq (.reg false [⟨d18, .mv t0, none, 0, 0, 0⟩,
  ⟨d19, .nilCheck t18, none, 0, 0, 0⟩,
  ⟨d20, .faddr 5 t19, none, 0, 0, 0⟩,
  ⟨d21, .load false 1 t20, none, 1, 0, 0⟩,
  ⟨d22, .bin .add .scalar t21 (.c (.int .i64 (1))), none, 0, 0, 0⟩,
  ⟨d23, .nilCheck t18, none, 0, 0, 0⟩,
  ⟨d24, .faddr 5 t23, none, 0, 0, 0⟩,
  ⟨none, .store 1 t24 t22, none, 3, 0, 0⟩])
 (.seq (.seq (.reg false [⟨d25, .mv t0, none, 0, 0, 0⟩,
  ⟨d26, .call (.f 164) [t25], none, 1, 0, 0⟩])
 (.block 0 (.seq (.reg false [⟨d28, .bin .eql .scalar t26 (.c (.int .i64 (1))), none, 0, 0, 0⟩,
  ⟨d27, .mv t28, none, 0, 0, 0⟩])
 (.cond t27
 (.seq (.reg false [⟨d6, .mv (.c (.int .i64 (11))), none, 0, 0, 0⟩])
 .ret)
 (.seq (.reg false [⟨d30, .bin .eql .scalar t26 (.c (.int .i64 (2))), none, 0, 0, 0⟩,
  ⟨d29, .mv t30, none, 0, 0, 0⟩])
 (.cond t29
 (.seq (.reg false [⟨d31, .mv t2, none, 0, 0, 0⟩,
  ⟨d32, .call t31 [], none, 3, 0, 0⟩])
 (.seq (.reg false [⟨d6, .mv (.c (.int .i64 (11))), none, 0, 0, 0⟩])
 .ret))
 .skip))))))
 (.seq (.reg false [⟨d33, .mv t2, none, 0, 0, 0⟩,
  ⟨d34, .call t33 [], none, 3, 0, 0⟩,
  ⟨d6, .mv t34, none, 0, 0, 0⟩])
 .ret)))))))⟩
theorem ok110 : GoodFn Tryz.prog kt (110, ir110) := ⟨Tryz.f110, fun _ _ => false, Tryz.func110, by kernel_rfl⟩
/- (*firkin/world.World).next -/
def ir164 : IFn := ⟨1, [.t p2],
 (.seq (.reg false [⟨d2, .mv (.c (.int .i64 (0))), none, 0, 0, 0⟩])
 (.seq (.seq (.reg false [⟨d4, .mv t0, none, 0, 0, 0⟩,
  ⟨d5, .nilCheck t4, none, 0, 0, 0⟩,
  ⟨d6, .faddr 1 t5, none, 0, 0, 0⟩,
  ⟨d7, .load false 1 t6, none, 1, 0, 0⟩,
  ⟨d8, .len 1 t7, none, 1, 0, 0⟩,
  ⟨d9, .bin .eql .scalar t8 (.c (.int .i64 (0))), none, 0, 0, 0⟩])
 (.cond t9
 (.seq (.reg false [⟨d2, .mv (.c (.int .i64 (0))), none, 0, 0, 0⟩])
 .ret)
 .skip))
 (.seq (.reg false [⟨d10, .mv t0, none, 0, 0, 0⟩,
  ⟨d11, .nilCheck t10, none, 0, 0, 0⟩,
  ⟨d12, .faddr 1 t11, none, 0, 0, 0⟩,
  ⟨d13, .load false 1 t12, none, 1, 0, 0⟩,
  ⟨d14, .iaddr none 1 t13 (.c (.int .i64 (0))), none, 0, 0, 0⟩,
  ⟨d15, .load false 1 t14, none, 1, 0, 0⟩,
  ⟨d3, .mv t15, none, 0, 0, 0⟩])
 (.seq (.reg false [⟨d16, .mv t0, none, 0, 0, 0⟩,
  ⟨d17, .mv t0, none, 0, 0, 0⟩,
  ⟨d18, .nilCheck t17, none, 0, 0, 0⟩,
  ⟨d19, .faddr 1 t18, none, 0, 0, 0⟩,
  ⟨d20, .load false 1 t19, none, 1, 0, 0⟩,
  ⟨d21, .slice 2 0 1 t20 (some (.c (.int .i64 (1)))) none none, none, 0, 0, 0⟩,
  ⟨d22, .nilCheck t16, none, 0, 0, 0⟩,
  ⟨d23, .faddr 1 t22, none, 0, 0, 0⟩,
  ⟨none, .store 1 t23 t21, none, 3, 0, 0⟩])
 (.seq (.reg false [⟨d24, .mv t3, none, 0, 0, 0⟩,
  ⟨d2, .mv t24, none, 0, 0, 0⟩])
 .ret)))))⟩
theorem ok164 : GoodFn Tryz.prog kt (164, ir164) := ⟨Tryz.f164, fun _ _ => false, Tryz.func164, by kernel_rfl⟩
/- firkin/mark.Newest -/
def ir16 : IFn := ⟨2, [.cell p4 true 3, .t p5],
 (.seq (.reg false [⟨d4, .alloc [(.int .i64 (0)), (.int .i64 (0)), (.slice none 0 0)], none, 2, 0, 0⟩,
  ⟨d5, .mv (.c (.int .i64 (0))), none, 0, 0, 0⟩])
 (.seq (.seq (.reg false [⟨d11, .mv t0, none, 0, 0, 0⟩,
  ⟨d12, .mv t1, none, 0, 0, 0⟩,
  ⟨d13, .call (.f 35) [t11, t12], none, 1, 0, 0⟩,
  ⟨d6, .mv t13, none, 0, 0, 0⟩])
 (.seq (.reg false [⟨d14, .mv t6, none, 0, 0, 0⟩,
  ⟨d15, .bin .neq .scalar t14 (.c (.int .i64 (0))), none, 0, 0, 0⟩])
 (.cond t15
 (.seq (.reg false [⟨d16, .build [(.int .i64 (0)), (.int .i64 (0)), (.slice none 0 0)] [], none, 0, 0, 0⟩,
  ⟨d17, .mv t6, none, 0, 0, 0⟩,
  ⟨none, .store 3 t4 t16, none, 3, 0, 0⟩,
  ⟨d5, .mv t17, none, 0, 0, 0⟩])
 .ret)
 .skip)))
 (.seq (.reg false [⟨d19, .mv t0, none, 0, 0, 0⟩,
  ⟨d20, .mv t1, none, 0, 0, 0⟩,
  ⟨d21, .call (.f 36) [t19, t20], none, 3, 0, 0⟩,
  ⟨d18, .mv t21, none, 0, 0, 0⟩,
  ⟨d22, .extract 0 t18, none, 0, 0, 0⟩,
  ⟨d23, .extract 1 t18, none, 0, 0, 0⟩,
  ⟨d7, .mv t22, none, 0, 0, 0⟩,
  ⟨d8, .mv t23, none, 0, 0, 0⟩])
 (.seq (.seq (.reg false [⟨d24, .mv t8, none, 0, 0, 0⟩,
  ⟨d25, .bin .neq .scalar t24 (.c (.int .i64 (0))), none, 0, 0, 0⟩])
 (.cond t25
 (.seq (.reg false [⟨d26, .build [(.int .i64 (0)), (.int .i64 (0)), (.slice none 0 0)] [], none, 0, 0, 0⟩,
  ⟨d27, .mv t8, none, 0, 0, 0⟩,
  ⟨none, .store 3 t4 t26, none, 3, 0, 0⟩,
  ⟨d5, .mv t27, none, 0, 0, 0⟩])
 .ret)
 .skip))
 (.seq (.seq (.reg false [⟨d28, .mv t7, none, 0, 0, 0⟩,
  ⟨d29, .bin .eql .scalar t28 (.c (.int .i64 (0))), none, 0, 0, 0⟩])
 (.cond t29
 (.seq (.reg false [⟨d30, .call (.f 13) [], none, 1, 0, 0⟩,
  ⟨none, .store 3 t4 t30, none, 3, 0, 0⟩,
  ⟨d5, .mv (.c (.int .i64 (0))), none, 0, 0, 0⟩])
 .ret)
 .skip))
 (.seq (.reg false [⟨d32, .mv t0, none, 0, 0, 0⟩,
  ⟨d33, .mv t7, none, 0, 0, 0⟩,
  ⟨d34, .call (.f 8) [t33], none, 1, 0, 0⟩,
  ⟨d35, .mv t1, none, 0, 0, 0⟩,
  ⟨d36, .call (.f 37) [t32, t34, t35], none, 3, 0, 0⟩,
  ⟨d31, .mv t36, none, 0, 0, 0⟩,
  ⟨d37, .extract 0 t31, none, 0, 0, 0⟩,
  ⟨d38, .extract 1 t31, none, 0, 0, 0⟩,
  ⟨d9, .mv t37, none, 0, 0, 0⟩,
  ⟨d8, .mv t38, none, 0, 0, 0⟩])
 (.seq (.seq (.reg false [⟨d39, .mv t8, none, 0, 0, 0⟩,
  ⟨d40, .bin .neq .scalar t39 (.c (.int .i64 (0))), none, 0, 0, 0⟩])
 (.cond t40
 (.seq (.reg false [⟨d41, .build [(.int .i64 (0)), (.int .i64 (0)), (.slice none 0 0)] [], none, 0, 0, 0⟩,
  ⟨d42, .mv t8, none, 0, 0, 0⟩,
  ⟨none, .store 3 t4 t41, none, 3, 0, 0⟩,
  ⟨d5, .mv t42, none, 0, 0, 0⟩])
 .ret)
 .skip))
 (.seq (.reg false [⟨d44, .mv t9, none, 0, 0, 0⟩,
  ⟨d45, .call (.f 38) [t44], none, 1, 0, 0⟩,
  ⟨d43, .mv t45, none, 0, 0, 0⟩,
  ⟨d46, .extract 0 t43, none, 0, 0, 0⟩,
  ⟨d47, .extract 1 t43, none, 0, 0, 0⟩,
  ⟨d10, .alloc [(.int .i64 (0)), (.int .i64 (0)), (.slice none 0 0)], none, 2, 0, 0⟩,
  ⟨none, .store 3 t10 t46, none, 3, 0, 0⟩,
  ⟨d8, .mv t47, none, 0, 0, 0⟩])
 (.seq (.seq (.reg false [⟨d48, .mv t8, none, 0, 0, 0⟩,
  ⟨d49, .bin .neq .scalar t48 (.c (.int .i64 (0))), none, 0, 0, 0⟩])
 (.cond t49
 (.seq (.reg false [⟨d50, .build [(.int .i64 (0)), (.int .i64 (0)), (.slice none 0 0)] [], none, 0, 0, 0⟩,
  ⟨d51, .mv t8, none, 0, 0, 0⟩,
  ⟨none, .store 3 t4 t50, none, 3, 0, 0⟩,
  ⟨d5, .mv t51, none, 0, 0, 0⟩])
 .ret)
 .skip))
 (.seq (.seq (.reg false [⟨d52, .faddr 0 t10, none, 0, 0, 0⟩,
  ⟨d53, .load false 1 t52, none, 1, 0, 0⟩,
  ⟨d54, .mv t7, none, 0, 0, 0⟩,
  ⟨d55, .bin .neq .scalar t53 t54, none, 0, 0, 0⟩])
 (.cond t55
 (.seq (.reg false [⟨d56, .build [(.int .i64 (0)), (.int .i64 (0)), (.slice none 0 0)] [], none, 0, 0, 0⟩,
  ⟨none, .store 3 t4 t56, none, 3, 0, 0⟩,
  ⟨d5, .mv (.c (.int .i64 (2))), none, 0, 0, 0⟩])
 .ret)
 .skip))
 (.seq (.reg false [⟨d57, .load true 3 t10, none, 1, 0, 0⟩,
  ⟨none, .store 3 t4 t57, none, 3, 0, 0⟩,
  ⟨d5, .mv (.c (.int .i64 (0))), none, 0, 0, 0⟩])
 .ret)))))))))))⟩
theorem ok16 : GoodFn Tryz.prog kt (16, ir16) := ⟨Tryz.f16, fun _ _ => false, Tryz.func16, by kernel_rfl⟩
/- strings.TrimPrefix -/
def ir33 : IFn := ⟨2, [.t p4],
 (.seq (.reg false [⟨d4, .mv (.c (.string (bsN []))), none, 0, 0, 0⟩])
 (.seq (.reg false [⟨d5, .mv t0, none, 0, 0, 0⟩,
  ⟨d6, .mv t1, none, 0, 0, 0⟩,
  ⟨d7, .call (.f 76) [t5, t6], none, 1, 0, 0⟩,
  ⟨d4, .mv t7, none, 0, 0, 0⟩])
 .ret))⟩
theorem ok33 : GoodFn Tryz.prog kt (33, ir33) := ⟨Tryz.f33, fun _ _ => false, Tryz.func33, by kernel_rfl⟩
/- strings.TrimLeft -/
def ir32 : IFn := ⟨2, [.t p4],
 (.seq (.reg false [⟨d4, .mv (.c (.string (bsN []))), none, 0, 0, 0⟩])
 (.seq (.seq (.reg false [⟨d7, .mv t0, none, 0, 0, 0⟩,
  ⟨d8, .bin .eql .scalar t7 (.c (.string (bsN []))), none, 0, 0, 0⟩,
  ⟨d9, .mv t8, none, 0, 0, 0⟩,
  ⟨d10, .mv t1, (some (p9, false)), 0, 0, 0⟩,
  ⟨d11, .bin .eql .scalar t10 (.c (.string (bsN []))), (some (p9, false)), 0, 0, 0⟩,
  ⟨d12, .pick t9 (.c (.bool true)) t11, none, 0, 0, 0⟩])
 (.cond t12
 (.seq (.reg false [⟨d13, .mv t0, none, 0, 0, 0⟩,
  ⟨d4, .mv t13, none, 0, 0, 0⟩])
 .ret)
 .skip))
 (.seq (.seq (.reg false [⟨d14, .mv t1, none, 0, 0, 0⟩,
  ⟨d15, .len 0 t14, none, 1, 0, 0⟩,
  ⟨d16, .bin .eql .scalar t15 (.c (.int .i64 (1))), none, 0, 0, 0⟩,
  ⟨d17, .mv t16, none, 0, 0, 0⟩,
  ⟨d18, .mv t1, (some (p17, true)), 0, 0, 0⟩,
  ⟨d19, .index none t18 (.c (.int .i64 (0))), (some (p17, true)), 0, 0, 0⟩,
  ⟨d20, .bin .lss .scalar t19 (.c (.int .u8 (128))), (some (p17, true)), 0, 0, 0⟩,
  ⟨d21, .pick t17 t20 (.c (.bool false)), none, 0, 0, 0⟩])
 (.cond t21
 (.seq (.reg false [⟨d22, .mv t0, none, 0, 0, 0⟩,
  ⟨d23, .mv t1, none, 0, 0, 0⟩,
  ⟨d24, .index none t23 (.c (.int .i64 (0))), none, 0, 0, 0⟩,
  ⟨d25, .call (.f 72) [t22, t24], none, 1, 0, 0⟩,
  ⟨d4, .mv t25, none, 0, 0, 0⟩])
 .ret)
 .skip))
 (.seq (.seq (.reg false [⟨d27, .mv t1, none, 0, 0, 0⟩,
  ⟨d28, .call (.f 73) [t27], none, 1, 0, 0⟩,
  ⟨d26, .mv t28, none, 0, 0, 0⟩,
  ⟨d29, .extract 0 t26, none, 0, 0, 0⟩,
  ⟨d30, .extract 1 t26, none, 0, 0, 0⟩,
  ⟨d5, .alloc [(.bool false), (.bool false), (.bool false), (.bool false), (.bool false), (.bool false), (.bool false), (.bool false), (.bool false), (.bool false), (.bool false), (.bool false), (.bool false), (.bool false), (.bool false), (.bool false), (.bool false), (.bool false), (.bool false), (.bool false), (.bool false), (.bool false), (.bool false), (.bool false), (.bool false), (.bool false), (.bool false), (.bool false), (.bool false), (.bool false), (.bool false), (.bool false), (.bool false), (.bool false), (.bool false), (.bool false), (.bool false), (.bool false), (.bool false), (.bool false), (.bool false), (.bool false), (.bool false), (.bool false), (.bool false), (.bool false), (.bool false), (.bool false), (.bool false), (.bool false), (.bool false), (.bool false), (.bool false), (.bool false), (.bool false), (.bool false), (.bool false), (.bool false), (.bool false), (.bool false), (.bool false), (.bool false), (.bool false), (.bool false), (.bool false), (.bool false), (.bool false), (.bool false), (.bool false), (.bool false), (.bool false), (.bool false), (.bool false), (.bool false), (.bool false), (.bool false), (.bool false), (.bool false), (.bool false), (.bool false), (.bool false), (.bool false), (.bool false), (.bool false), (.bool false), (.bool false), (.bool false), (.bool false), (.bool false), (.bool false), (.bool false), (.bool false), (.bool false), (.bool false), (.bool false), (.bool false), (.bool false), (.bool false), (.bool false), (.bool false), (.bool false), (.bool false), (.bool false), (.bool false), (.bool false), (.bool false), (.bool false), (.bool false), (.bool false), (.bool false), (.bool false), (.bool false), (.bool false), (.bool false), (.bool false), (.bool false), (.bool false), (.bool false), (.bool false), (.bool false), (.bool false), (.bool false), (.bool false), (.bool false), (.bool false), (.bool false), (.bool false), (.bool false), (.bool false), (.bool false), (.bool false), (.bool false), (.bool false), (.bool false), (.bool false), (.bool false), (.bool false), (.bool false), (.bool false), (.bool false), (.bool false), (.bool false), (.bool false), (.bool false), (.bool false), (.bool false), (.bool false), (.bool false), (.bool false), (.bool false), (.bool false), (.bool false), (.bool false), (.bool false), (.bool false), (.bool false), (.bool false), (.bool false), (.bool false), (.bool false), (.bool false), (.bool false), (.bool false), (.bool false), (.bool false), (.bool false), (.bool false), (.bool false), (.bool false), (.bool false), (.bool false), (.bool false), (.bool false), (.bool false), (.bool false), (.bool false), (.bool false), (.bool false), (.bool false), (.bool false), (.bool false), (.bool false), (.bool false), (.bool false), (.bool false), (.bool false), (.bool false), (.bool false), (.bool false), (.bool false), (.bool false), (.bool false), (.bool false), (.bool false), (.bool false), (.bool false), (.bool false), (.bool false), (.bool false), (.bool false), (.bool false), (.bool false), (.bool false), (.bool false), (.bool false), (.bool false), (.bool false), (.bool false), (.bool false), (.bool false), (.bool false), (.bool false), (.bool false), (.bool false), (.bool false), (.bool false), (.bool false), (.bool false), (.bool false), (.bool false), (.bool false), (.bool false), (.bool false), (.bool false), (.bool false), (.bool false), (.bool false), (.bool false), (.bool false), (.bool false), (.bool false), (.bool false), (.bool false), (.bool false), (.bool false), (.bool false), (.bool false), (.bool false), (.bool false), (.bool false), (.bool false), (.bool false), (.bool false), (.bool false), (.bool false), (.bool false), (.bool false), (.bool false), (.bool false), (.bool false), (.bool false), (.bool false), (.bool false), (.bool false), (.bool false), (.bool false)], none, 2, 0, 0⟩,
  ⟨none, .store 256 t5 t29, none, 3, 0, 0⟩,
  ⟨d6, .mv t30, none, 0, 0, 0⟩])
 (.seq (.reg false [⟨d31, .mv t6, none, 0, 0, 0⟩])
 (.cond t31
 (.seq (.reg false [⟨d32, .mv t0, none, 0, 0, 0⟩,
  ⟨d33, .call (.f 74) [t32, t5], none, 1, 0, 0⟩,
  ⟨d4, .mv t33, none, 0, 0, 0⟩])
 .ret)
 .skip)))
 (.seq (.reg false [⟨d34, .mv t0, none, 0, 0, 0⟩,
  ⟨d35, .mv t1, none, 0, 0, 0⟩,
  ⟨d36, .call (.f 75) [t34, t35], none, 1, 0, 0⟩,
  ⟨d4, .mv t36, none, 0, 0, 0⟩])
 .ret)))))⟩
theorem ok32 : GoodFn Tryz.prog kt (32, ir32) := ⟨Tryz.f32, fun _ _ => false, Tryz.func32, by kernel_rfl⟩
/- (*firkin/vint.Source).Below -/
def ir85 : IFn := ⟨2, [.t p4],
 (.seq (.reg false [⟨d4, .mv (.c (.int .i64 (0))), none, 0, 0, 0⟩])
 (.seq (.reg false [⟨d6, .mv t0, none, 0, 0, 0⟩,
  ⟨d7, .call (.f 139) [t6], none, 3, 0, 0⟩,
  ⟨d5, .mv t7, none, 0, 0, 0⟩])
 (.seq (.seq (.reg false [⟨d8, .mv t0, none, 0, 0, 0⟩,
  ⟨d9, .call (.f 86) [t8], none, 1, 0, 0⟩,
  ⟨d10, .mv t9, none, 0, 0, 0⟩,
  ⟨d11, .mv t1, (some (p10, true)), 0, 0, 0⟩,
  ⟨d12, .bin .gtr .scalar t11 (.c (.int .i64 (0))), (some (p10, true)), 0, 0, 0⟩,
  ⟨d13, .pick t10 t12 (.c (.bool false)), none, 0, 0, 0⟩,
  ⟨d14, .mv t13, none, 0, 0, 0⟩,
  ⟨d15, .mv t5, (some (p14, true)), 0, 0, 0⟩,
  ⟨d16, .mv t1, (some (p14, true)), 0, 0, 0⟩,
  ⟨d17, .convInt .u64 t16, (some (p14, true)), 0, 0, 0⟩,
  ⟨d18, .bin .lss .scalar t15 t17, (some (p14, true)), 0, 0, 0⟩,
  ⟨d19, .pick t14 t18 (.c (.bool false)), none, 0, 0, 0⟩])
 (.cond t19
 (.seq (.reg false [⟨d20, .mv t5, none, 0, 0, 0⟩,
  ⟨d21, .convInt .i64 t20, none, 0, 0, 0⟩,
  ⟨d4, .mv t21, none, 0, 0, 0⟩])
 .ret)
 .skip))
 (.seq (.reg false [⟨d22, .mv t0, none, 0, 0, 0⟩,
  ⟨d23, .call (.f 140) [t22], none, 1, 0, 0⟩])
 (.seq (.reg false [⟨d4, .mv (.c (.int .i64 (0))), none, 0, 0, 0⟩])
 .ret)))))⟩
theorem ok85 : GoodFn Tryz.prog kt (85, ir85) := ⟨Tryz.f85, fun _ _ => false, Tryz.func85, by kernel_rfl⟩
/- (*firkin/vint.Source).Ok -/
def ir86 : IFn := ⟨1, [.t p2],
 (.seq (.reg false [⟨d2, .mv (.c (.bool false)), none, 0, 0, 0⟩])
 (.seq (.reg false [⟨d3, .mv t0, none, 0, 0, 0⟩,
  ⟨d4, .bin .neq (.ref .ptr) t3 (.c (.pointer none)), none, 0, 0, 0⟩,
  ⟨d5, .mv t4, none, 0, 0, 0⟩,
  ⟨d6, .mv t0, (some (p5, true)), 0, 0, 0⟩,
  ⟨d7, .nilCheck t6, (some (p5, true)), 0, 0, 0⟩,
  ⟨d8, .faddr 1 t7, (some (p5, true)), 0, 0, 0⟩,
  ⟨d9, .load false 1 t8, (some (p5, true)), 1, 0, 0⟩,
  ⟨d10, .un .not t9, (some (p5, true)), 0, 0, 0⟩,
  ⟨d11, .pick t5 t10 (.c (.bool false)), none, 0, 0, 0⟩,
  ⟨d2, .mv t11, none, 0, 0, 0⟩])
 .ret))⟩
theorem ok86 : GoodFn Tryz.prog kt (86, ir86) := ⟨Tryz.f86, fun _ _ => false, Tryz.func86, by kernel_rfl⟩
/- (*firkin/vint.Source).Take -/
def ir136 : IFn := ⟨2, [.t p4],
 (.seq (.reg false [⟨d4, .mv (.c (.slice none 0 0)), none, 0, 0, 0⟩])
 (.seq (.seq (.reg false [⟨d6, .mv t0, none, 0, 0, 0⟩,
  ⟨d7, .call (.f 86) [t6], none, 1, 0, 0⟩,
  ⟨d8, .un .not t7, none, 0, 0, 0⟩,
  ⟨d9, .mv t8, none, 0, 0, 0⟩,
  ⟨d10, .mv t1, (some (p9, false)), 0, 0, 0⟩,
  ⟨d11, .bin .lss .scalar t10 (.c (.int .i64 (0))), (some (p9, false)), 0, 0, 0⟩,
  ⟨d12, .pick t9 (.c (.bool true)) t11, none, 0, 0, 0⟩,
  ⟨d13, .mv t12, none, 0, 0, 0⟩,
  ⟨d14, .mv t1, (some (p13, false)), 0, 0, 0⟩,
  ⟨d15, .mv t0, (some (p13, false)), 0, 0, 0⟩,
  ⟨d16, .nilCheck t15, (some (p13, false)), 0, 0, 0⟩,
  ⟨d17, .faddr 0 t16, (some (p13, false)), 0, 0, 0⟩,
  ⟨d18, .load false 1 t17, (some (p13, false)), 1, 0, 0⟩,
  ⟨d19, .len 1 t18, (some (p13, false)), 1, 0, 0⟩,
  ⟨d20, .bin .gtr .scalar t14 t19, (some (p13, false)), 0, 0, 0⟩,
  ⟨d21, .pick t13 (.c (.bool true)) t20, none, 0, 0, 0⟩])
 (.cond t21
 (.seq (.reg false [⟨d22, .mv t0, none, 0, 0, 0⟩,
  ⟨d23, .call (.f 140) [t22], none, 1, 0, 0⟩])
 (.seq (.reg false [⟨d4, .mv (.c (.slice none 0 0)), none, 0, 0, 0⟩])
 .ret))
 .skip))
 (.seq (.reg false [⟨d24, .mv t0, none, 0, 0, 0⟩,
  ⟨d25, .nilCheck t24, none, 0, 0, 0⟩,
  ⟨d26, .faddr 0 t25, none, 0, 0, 0⟩,
  ⟨d27, .load false 1 t26, none, 1, 0, 0⟩,
  ⟨d28, .mv t1, none, 0, 0, 0⟩,
  ⟨d29, .slice 2 0 1 t27 none (some t28) none, none, 0, 0, 0⟩,
  ⟨d30, .call (.f 135) [t29], none, 1, 0, 0⟩,
  ⟨d5, .mv t30, none, 0, 0, 0⟩])
 (.seq (.reg false [⟨d31, .mv t0, none, 0, 0, 0⟩,
  ⟨d32, .mv t0, none, 0, 0, 0⟩,
  ⟨d33, .nilCheck t32, none, 0, 0, 0⟩,
  ⟨d34, .faddr 0 t33, none, 0, 0, 0⟩,
  ⟨d35, .load false 1 t34, none, 1, 0, 0⟩,
  ⟨d36, .mv t1, none, 0, 0, 0⟩,
  ⟨d37, .slice 2 0 1 t35 (some t36) none none, none, 0, 0, 0⟩,
  ⟨d38, .nilCheck t31, none, 0, 0, 0⟩,
  ⟨d39, .faddr 0 t38, none, 0, 0, 0⟩,
  ⟨none, .store 1 t39 t37, none, 3, 0, 0⟩])
 (.seq (.reg false [⟨d40, .mv t5, none, 0, 0, 0⟩,
  ⟨d4, .mv t40, none, 0, 0, 0⟩])
 .ret)))))⟩
theorem ok136 : GoodFn Tryz.prog kt (136, ir136) := ⟨Tryz.f136, fun _ _ => false, Tryz.func136, by kernel_rfl⟩
/- firkin/mark.First -/
def ir13 : IFn := ⟨0, [.cell p0 true 3],
 (.seq (.reg false [⟨d0, .alloc [(.int .i64 (0)), (.int .i64 (0)), (.slice none 0 0)], none, 2, 0, 0⟩])
 (.seq (.reg false [⟨d1, .build [(.int .i64 (0)), (.int .i64 (0)), (.slice none 0 0)] [(1, 1, (.c (.int .i64 (1))))], none, 0, 0, 0⟩,
  ⟨none, .store 3 t0 t1, none, 3, 0, 0⟩])
 .ret))⟩
theorem ok13 : GoodFn Tryz.prog kt (13, ir13) := ⟨Tryz.f13, fun _ _ => false, Tryz.func13, by kernel_rfl⟩
end Go.Proofs.YtjlaccjneaomgaaGreatDoor
