/- Resolved functions, part 3. Written by program. -/
import Derived.Test.YtjlaccjneaomgaaGreatDoorFkT0
namespace Go.Proofs.YtjlaccjneaomgaaGreatDoor
open Go Go.Fk
/- firkin/mark.Commit -/
def ir19 : IFn := ⟨3, [.t p6],
 (.seq (.reg false [⟨d3, .box t0, none, 3, 0, 0⟩,
  ⟨d4, .box t1, none, 3, 0, 0⟩,
  ⟨d6, .mv (.c (.int .i64 (0))), none, 0, 0, 0⟩])
 (.seq (.seq (.reg false [⟨d13, .load false 1 t3, none, 1, 0, 0⟩,
  ⟨d14, .mv t2, none, 0, 0, 0⟩,
  ⟨d15, .call (.f 35) [t13, t14], none, 1, 0, 0⟩,
  ⟨d7, .mv t15, none, 0, 0, 0⟩])
 (.seq (.reg false [⟨d16, .mv t7, none, 0, 0, 0⟩,
  ⟨d17, .bin .neq .scalar t16 (.c (.int .i64 (0))), none, 0, 0, 0⟩])
 (.cond t17
 (.seq (.reg false [⟨d18, .mv t7, none, 0, 0, 0⟩,
  ⟨d6, .mv t18, none, 0, 0, 0⟩])
 .ret)
 .skip)))
 (.seq (.reg false [⟨d20, .load true 3 t4, none, 1, 0, 0⟩,
  ⟨d21, .call (.f 39) [t20], none, 1, 0, 0⟩,
  ⟨d19, .mv t21, none, 0, 0, 0⟩,
  ⟨d22, .extract 0 t19, none, 0, 0, 0⟩,
  ⟨d23, .extract 1 t19, none, 0, 0, 0⟩,
  ⟨d8, .alloc [(.slice none 0 0)], none, 2, 0, 0⟩,
  ⟨none, .store 1 t8 t22, none, 3, 0, 0⟩,
  ⟨d9, .mv t23, none, 0, 0, 0⟩])
 (.seq (.seq (.reg false [⟨d24, .mv t9, none, 0, 0, 0⟩,
  ⟨d25, .bin .neq .scalar t24 (.c (.int .i64 (0))), none, 0, 0, 0⟩,
  ⟨d26, .mv t25, none, 0, 0, 0⟩,
  ⟨d27, .faddr 0 t4, (some (p26, false)), 0, 0, 0⟩,
  ⟨d28, .load false 1 t27, (some (p26, false)), 1, 0, 0⟩,
  ⟨d29, .bin .eql .scalar t28 (.c (.int .i64 (0))), (some (p26, false)), 0, 0, 0⟩,
  ⟨d30, .pick t26 (.c (.bool true)) t29, none, 0, 0, 0⟩])
 (.cond t30
 (.seq (.reg false [⟨d6, .mv (.c (.int .i64 (1))), none, 0, 0, 0⟩])
 .ret)
 .skip))
 (.seq (.reg false [⟨d31, .faddr 0 t4, none, 0, 0, 0⟩,
  ⟨d32, .load false 1 t31, none, 1, 0, 0⟩,
  ⟨d33, .call (.f 8) [t32], none, 1, 0, 0⟩,
  ⟨d10, .alloc [(.string (bsN []))], none, 2, 0, 0⟩,
  ⟨none, .store 1 t10 t33, none, 3, 0, 0⟩])
 (.seq (.reg false [⟨d35, .mv t2, none, 0, 0, 0⟩,
  ⟨d36, .mkfunc (.func 41) [] [t3, t10, t8], none, 0, 0, 0⟩,
  ⟨d37, .call (.f 40) [t35, t36], none, 3, 0, 0⟩,
  ⟨d34, .mv t37, none, 0, 0, 0⟩,
  ⟨d38, .extract 0 t34, none, 0, 0, 0⟩,
  ⟨d39, .extract 1 t34, none, 0, 0, 0⟩,
  ⟨d40, .extract 2 t34, none, 0, 0, 0⟩,
  ⟨d9, .mv t38, none, 0, 0, 0⟩,
  ⟨d11, .mv t39, none, 0, 0, 0⟩,
  ⟨d12, .mv t40, none, 0, 0, 0⟩])
 (.seq (.seq (.reg false [⟨d41, .mv t9, none, 0, 0, 0⟩])
 (.block 0 (.seq (.block 3 (.seq (.block 2 (.seq (.block 1 (.seq (.seq (.seq (.reg false [⟨d43, .bin .eql .scalar t41 (.c (.int .i64 (11))), none, 0, 0, 0⟩,
  ⟨d42, .mv t43, none, 0, 0, 0⟩])
 (.cond t42
 (.exit 1)
 .skip))
 (.seq (.reg false [⟨d45, .bin .eql .scalar t41 (.c (.int .i64 (6))), none, 0, 0, 0⟩,
  ⟨d44, .mv t45, none, 0, 0, 0⟩])
 (.cond t44
 (.exit 2)
 .skip)))
 (.exit 3)))
 (.seq (.reg false [⟨d9, .mv (.c (.int .i64 (12))), none, 0, 0, 0⟩])
 (.exit 0))))
 (.seq (.reg false [⟨d46, .mv t11, none, 0, 0, 0⟩,
  ⟨d47, .un .not t46, none, 0, 0, 0⟩])
 (.cond t47
 (.seq (.reg false [⟨d48, .load false 1 t3, none, 1, 0, 0⟩,
  ⟨d49, .load false 1 t10, none, 1, 0, 0⟩,
  ⟨d50, .load false 1 t8, none, 1, 0, 0⟩,
  ⟨d51, .mv t2, none, 0, 0, 0⟩,
  ⟨d52, .call (.f 43) [t48, t49, t50, t51], none, 1, 0, 0⟩,
  ⟨d6, .mv t52, none, 0, 0, 0⟩])
 .ret)
 .skip))))
 (.seq (.seq (.reg false [⟨d53, .mv t9, none, 0, 0, 0⟩,
  ⟨d6, .mv t53, none, 0, 0, 0⟩])
 .ret)
 (.exit 0)))))
 (.seq (.reg false [⟨d54, .mv t9, none, 0, 0, 0⟩,
  ⟨d6, .mv t54, none, 0, 0, 0⟩])
 .ret))))))))⟩
theorem ok19 : GoodFn Tryz.prog kt (19, ir19) := ⟨Tryz.f19, fun _ _ => false, Tryz.func19, by kernel_rfl⟩
/- slices.Sort[[]int,int] -/
def ir188 : IFn := ⟨1, [],
 (.seq (.reg false [⟨d3, .mv t0, none, 0, 0, 0⟩,
  ⟨d4, .len 1 t3, none, 1, 0, 0⟩,
  ⟨d2, .mv t4, none, 0, 0, 0⟩])
 (.reg false [⟨d5, .mv t0, none, 0, 0, 0⟩,
  ⟨d6, .mv t2, none, 0, 0, 0⟩,
  ⟨d7, .mv t2, none, 0, 0, 0⟩,
  ⟨d8, .convInt .u64 t7, none, 0, 0, 0⟩,
  ⟨d9, .call (.f 167) [t8], none, 1, 0, 0⟩,
  ⟨d10, .call (.f 221) [t5, (.c (.int .i64 (0))), t6, t9], none, 1, 0, 0⟩]))⟩
theorem ok188 : GoodFn Tryz.prog kt (188, ir188) := ⟨Tryz.f188, fun _ _ => false, Tryz.func188, by kernel_rfl⟩
/- math/bits.Len -/
def ir167 : IFn := ⟨1, [.t p2],
 (.seq (.reg false [⟨d2, .mv (.c (.int .i64 (0))), none, 0, 0, 0⟩])
 (.seq (.cond (.c (.bool false))
 (.seq (.reg false [⟨d3, .mv t0, none, 0, 0, 0⟩,
  ⟨d4, .convInt .u32 t3, none, 0, 0, 0⟩,
  ⟨d5, .call (.f 205) [t4], none, 1, 0, 0⟩,
  ⟨d2, .mv t5, none, 0, 0, 0⟩])
 .ret)
 .skip)
 (.seq (.reg false [⟨d6, .mv t0, none, 0, 0, 0⟩,
  ⟨d7, .call (.f 189) [t6], none, 1, 0, 0⟩,
  ⟨d2, .mv t7, none, 0, 0, 0⟩])
 .ret)))⟩
theorem ok167 : GoodFn Tryz.prog kt (167, ir167) := ⟨Tryz.f167, fun _ _ => false, Tryz.func167, by kernel_rfl⟩
/- math/bits.Len64 -/
def ir189 : IFn := ⟨1, [.t p2],
 (.seq (.reg false [⟨d2, .mv (.c (.int .i64 (0))), none, 0, 0, 0⟩])
 (.seq (.seq (.reg false [⟨d3, .mv t0, none, 0, 0, 0⟩,
  ⟨d4, .bin .geq .scalar t3 (.c (.int .u64 (4294967296))), none, 0, 0, 0⟩])
 (.cond t4
 (.seq (.reg false [⟨d5, .mv t0, none, 0, 0, 0⟩,
  ⟨d6, .bin .shr .scalar t5 (.c (.int .u64 (32))), none, 0, 0, 0⟩,
  ⟨d0, .mv t6, none, 0, 0, 0⟩])
 (.reg false [⟨d2, .mv (.c (.int .i64 (32))), none, 0, 0, 0⟩]))
 .skip))
 (.seq (.seq (.reg false [⟨d7, .mv t0, none, 0, 0, 0⟩,
  ⟨d8, .bin .geq .scalar t7 (.c (.int .u64 (65536))), none, 0, 0, 0⟩])
 (.cond t8
 (.seq (.reg false [⟨d9, .mv t0, none, 0, 0, 0⟩,
  ⟨d10, .bin .shr .scalar t9 (.c (.int .u64 (16))), none, 0, 0, 0⟩,
  ⟨d0, .mv t10, none, 0, 0, 0⟩])
 (.reg false [⟨d11, .mv t2, none, 0, 0, 0⟩,
  ⟨d12, .bin .add .scalar t11 (.c (.int .i64 (16))), none, 0, 0, 0⟩,
  ⟨d2, .mv t12, none, 0, 0, 0⟩]))
 .skip))
 (.seq (.seq (.reg false [⟨d13, .mv t0, none, 0, 0, 0⟩,
  ⟨d14, .bin .geq .scalar t13 (.c (.int .u64 (256))), none, 0, 0, 0⟩])
 (.cond t14
 (.seq (.reg false [⟨d15, .mv t0, none, 0, 0, 0⟩,
  ⟨d16, .bin .shr .scalar t15 (.c (.int .u64 (8))), none, 0, 0, 0⟩,
  ⟨d0, .mv t16, none, 0, 0, 0⟩])
 (.reg false [⟨d17, .mv t2, none, 0, 0, 0⟩,
  ⟨d18, .bin .add .scalar t17 (.c (.int .i64 (8))), none, 0, 0, 0⟩,
  ⟨d2, .mv t18, none, 0, 0, 0⟩]))
 .skip))
 (.seq (.reg false [⟨d19, .mv t2, none, 0, 0, 0⟩,
  ⟨d20, .mv t0, none, 0, 0, 0⟩,
  ⟨d21, .convInt .u8 t20, none, 0, 0, 0⟩,
  ⟨d22, .index none (.c (.string (bsN [0, 1, 2, 2, 3, 3, 3, 3, 4, 4, 4, 4, 4, 4, 4, 4, 5, 5, 5, 5, 5, 5, 5, 5, 5, 5, 5, 5, 5, 5, 5, 5, 6, 6, 6, 6, 6, 6, 6, 6, 6, 6, 6, 6, 6, 6, 6, 6, 6, 6, 6, 6, 6, 6, 6, 6, 6, 6, 6, 6, 6, 6, 6, 6, 7, 7, 7, 7, 7, 7, 7, 7, 7, 7, 7, 7, 7, 7, 7, 7, 7, 7, 7, 7, 7, 7, 7, 7, 7, 7, 7, 7, 7, 7, 7, 7, 7, 7, 7, 7, 7, 7, 7, 7, 7, 7, 7, 7, 7, 7, 7, 7, 7, 7, 7, 7, 7, 7, 7, 7, 7, 7, 7, 7, 7, 7, 7, 7, 8, 8, 8, 8, 8, 8, 8, 8, 8, 8, 8, 8, 8, 8, 8, 8, 8, 8, 8, 8, 8, 8, 8, 8, 8, 8, 8, 8, 8, 8, 8, 8, 8, 8, 8, 8, 8, 8, 8, 8, 8, 8, 8, 8, 8, 8, 8, 8, 8, 8, 8, 8, 8, 8, 8, 8, 8, 8, 8, 8, 8, 8, 8, 8, 8, 8, 8, 8, 8, 8, 8, 8, 8, 8, 8, 8, 8, 8, 8, 8, 8, 8, 8, 8, 8, 8, 8, 8, 8, 8, 8, 8, 8, 8, 8, 8, 8, 8, 8, 8, 8, 8, 8, 8, 8, 8, 8, 8, 8, 8, 8, 8, 8, 8, 8, 8, 8, 8, 8, 8, 8, 8, 8, 8, 8, 8, 8, 8]))) t21, none, 0, 0, 0⟩,
  ⟨d23, .convInt .i64 t22, none, 0, 0, 0⟩,
  ⟨d24, .bin .add .scalar t19 t23, none, 0, 0, 0⟩,
  ⟨d2, .mv t24, none, 0, 0, 0⟩])
 .ret)))))⟩
theorem ok189 : GoodFn Tryz.prog kt (189, ir189) := ⟨Tryz.f189, fun _ _ => false, Tryz.func189, by kernel_rfl⟩
/- firkin/manif.nums -/
def ir90 : IFn := ⟨1, [.t p2],
 (.seq (.reg false [⟨d2, .mv (.c (.slice none 0 0)), none, 0, 0, 0⟩])
 (.seq (.reg false [⟨d3, .mv (.c (.slice none 0 0)), none, 0, 0, 0⟩])
 (.seq (.seq (.reg false [⟨d6, .mv t0, none, 0, 0, 0⟩,
  ⟨d7, .len 1 t6, none, 1, 0, 0⟩,
  ⟨d8, .mv (.c (.int .i64 (0))), none, 0, 0, 0⟩])
 (.block 0 (.loop (.seq (.reg false [⟨d9, .bin .lss .scalar t8 t7, none, 0, 0, 0⟩])
 (.seq (.cond t9
 .skip
 (.exit 0))
 (.seq (.block 1 (.seq (.reg false [⟨d10, .iaddr none 1 t6 t8, none, 0, 0, 0⟩,
  ⟨d11, .load false 1 t10, none, 1, 0, 0⟩,
  ⟨d5, .mv t11, none, 0, 0, 0⟩])
 (.reg false [⟨d12, .mv t3, none, 0, 0, 0⟩,
  ⟨d13, .mv t5, none, 0, 0, 0⟩,
  ⟨d14, .convInt .u64 t13, none, 0, 0, 0⟩,
  ⟨d15, .call (.f 148) [t14], none, 1, 0, 0⟩,
  ⟨d16, .append false 1 1 none t12 t15, none, 3, 0, 0⟩,
  ⟨d3, .mv t16, none, 0, 0, 0⟩])))
 (.reg false [⟨d17, .bin .add .scalar t8 (.c (.int .i64 (1))), none, 0, 0, 0⟩,
  ⟨d8, .mv t17, none, 0, 0, 0⟩])))))))
 (.seq (.reg false [⟨d18, .mv t3, none, 0, 0, 0⟩,
  ⟨d2, .mv t18, none, 0, 0, 0⟩])
 .ret))))⟩
theorem ok90 : GoodFn Tryz.prog kt (90, ir90) := ⟨Tryz.f90, fun _ _ => false, Tryz.func90, by kernel_rfl⟩
/- firkin/frame.Put -/
def ir94 : IFn := ⟨1, [.t p2],
 (.seq (.reg false [⟨d2, .mv (.c (.slice none 0 0)), none, 0, 0, 0⟩])
 (.seq (.reg false [⟨d4, .mv t0, none, 0, 0, 0⟩,
  ⟨d5, .len 1 t4, none, 1, 0, 0⟩,
  ⟨d6, .convInt .u64 t5, none, 0, 0, 0⟩,
  ⟨d7, .call (.f 148) [t6], none, 1, 0, 0⟩,
  ⟨d3, .mv t7, none, 0, 0, 0⟩])
 (.seq (.reg false [⟨d8, .mv t3, none, 0, 0, 0⟩,
  ⟨d9, .mv t0, none, 0, 0, 0⟩,
  ⟨d10, .call (.f 137) [t9], none, 1, 0, 0⟩,
  ⟨d11, .append false 1 1 none t8 t10, none, 3, 0, 0⟩,
  ⟨d3, .mv t11, none, 0, 0, 0⟩])
 (.seq (.reg false [⟨d12, .mv t3, none, 0, 0, 0⟩,
  ⟨d13, .mv t0, none, 0, 0, 0⟩,
  ⟨d14, .append false 1 1 none t12 t13, none, 3, 0, 0⟩,
  ⟨d2, .mv t14, none, 0, 0, 0⟩])
 .ret))))⟩
theorem ok94 : GoodFn Tryz.prog kt (94, ir94) := ⟨Tryz.f94, fun _ _ => false, Tryz.func94, by kernel_rfl⟩
/- firkin/frame.sumOf -/
def ir137 : IFn := ⟨1, [.t p2],
 (.seq (.reg false [⟨d2, .mv (.c (.slice none 0 0)), none, 0, 0, 0⟩])
 (.seq (.reg false [⟨d4, .mv t0, none, 0, 0, 0⟩,
  ⟨d5, .lit 1 1 (.slice none 0 0) [(0, t4)], none, 0, 0, 0⟩,
  ⟨d6, .call (.f 180) [t5], none, 1, 0, 0⟩,
  ⟨d3, .mv t6, none, 0, 0, 0⟩])
 (.seq (.reg false [⟨d7, .mv t3, none, 0, 0, 0⟩,
  ⟨d8, .convInt .u8 t7, none, 0, 0, 0⟩,
  ⟨d9, .mv t3, none, 0, 0, 0⟩,
  ⟨d10, .bin .shr .scalar t9 (.c (.int .u64 (8))), none, 0, 0, 0⟩,
  ⟨d11, .convInt .u8 t10, none, 0, 0, 0⟩,
  ⟨d12, .mv t3, none, 0, 0, 0⟩,
  ⟨d13, .bin .shr .scalar t12 (.c (.int .u64 (16))), none, 0, 0, 0⟩,
  ⟨d14, .convInt .u8 t13, none, 0, 0, 0⟩,
  ⟨d15, .mv t3, none, 0, 0, 0⟩,
  ⟨d16, .bin .shr .scalar t15 (.c (.int .u64 (24))), none, 0, 0, 0⟩,
  ⟨d17, .convInt .u8 t16, none, 0, 0, 0⟩,
  ⟨d18, .lit 1 4 (.int .u8 (0)) [(0, t8), (1, t11), (2, t14), (3, t17)], none, 0, 0, 0⟩,
  ⟨d2, .mv t18, none, 0, 0, 0⟩])
 .ret)))⟩
theorem ok137 : GoodFn Tryz.prog kt (137, ir137) := ⟨Tryz.f137, fun _ _ => false, Tryz.func137, by kernel_rfl⟩
/- firkin/crc.More -/
def ir216 : IFn := ⟨2, [.t p4],
 (.seq (.reg false [⟨d4, .mv (.c (.int .u32 (0))), none, 0, 0, 0⟩])
 (.seq (.reg false [⟨d8, .mv t0, none, 0, 0, 0⟩,
  ⟨d9, .un .xor t8, none, 0, 0, 0⟩,
  ⟨d5, .mv t9, none, 0, 0, 0⟩])
 (.seq (.seq (.reg false [⟨d10, .mv t1, none, 0, 0, 0⟩,
  ⟨d11, .len 1 t10, none, 1, 0, 0⟩,
  ⟨d12, .mv (.c (.int .i64 (0))), none, 0, 0, 0⟩])
 (.block 0 (.loop (.seq (.reg false [⟨d13, .bin .lss .scalar t12 t11, none, 0, 0, 0⟩])
 (.seq (.cond t13
 .skip
 (.exit 0))
 (.seq (.block 1 (.seq (.reg false [⟨d14, .iaddr none 1 t10 t12, none, 0, 0, 0⟩,
  ⟨d15, .load false 1 t14, none, 1, 0, 0⟩,
  ⟨d7, .mv t15, none, 0, 0, 0⟩])
 (.reg false [⟨d16, .mv t5, none, 0, 0, 0⟩,
  ⟨d17, .mv t7, none, 0, 0, 0⟩,
  ⟨d18, .convInt .u32 t17, none, 0, 0, 0⟩,
  ⟨d19, .bin .xor .scalar t16 t18, none, 0, 0, 0⟩,
  ⟨d20, .call (.f 232) [t19], none, 1, 0, 0⟩,
  ⟨d21, .call (.f 232) [t20], none, 1, 0, 0⟩,
  ⟨d5, .mv t21, none, 0, 0, 0⟩])))
 (.reg false [⟨d22, .bin .add .scalar t12 (.c (.int .i64 (1))), none, 0, 0, 0⟩,
  ⟨d12, .mv t22, none, 0, 0, 0⟩])))))))
 (.seq (.reg false [⟨d23, .mv t5, none, 0, 0, 0⟩,
  ⟨d24, .un .xor t23, none, 0, 0, 0⟩,
  ⟨d4, .mv t24, none, 0, 0, 0⟩])
 .ret))))⟩
theorem ok216 : GoodFn Tryz.prog kt (216, ir216) := ⟨Tryz.f216, fun _ _ => false, Tryz.func216, by kernel_rfl⟩
/- strconv.Itoa -/
def ir29 : IFn := ⟨1, [.t p2],
 (.seq (.reg false [⟨d2, .mv (.c (.string (bsN []))), none, 0, 0, 0⟩])
 (.seq (.reg false [⟨d3, .mv t0, none, 0, 0, 0⟩,
  ⟨d4, .call (.f 63) [t3], none, 1, 0, 0⟩,
  ⟨d2, .mv t4, none, 0, 0, 0⟩])
 .ret))⟩
theorem ok29 : GoodFn Tryz.prog kt (29, ir29) := ⟨Tryz.f29, fun _ _ => false, Tryz.func29, by kernel_rfl⟩
/- internal/strconv.Itoa -/
def ir63 : IFn := ⟨1, [.t p2],
 (.seq (.reg false [⟨d2, .mv (.c (.string (bsN []))), none, 0, 0, 0⟩])
 (.seq (.reg false [⟨d3, .mv t0, none, 0, 0, 0⟩,
  ⟨d4, .call (.f 117) [t3, (.c (.int .i64 (10)))], none, 1, 0, 0⟩,
  ⟨d2, .mv t4, none, 0, 0, 0⟩])
 .ret))⟩
theorem ok63 : GoodFn Tryz.prog kt (63, ir63) := ⟨Tryz.f63, fun _ _ => false, Tryz.func63, by kernel_rfl⟩
/- math/bits.Mul -/
def ir64 : IFn := ⟨2, [.t p4, .t p5],
 (.seq (.reg false [⟨d4, .mv (.c (.int .u64 (0))), none, 0, 0, 0⟩,
  ⟨d5, .mv (.c (.int .u64 (0))), none, 0, 0, 0⟩])
 (.seq (.cond (.c (.bool false))
 (.seq (.reg false [⟨d11, .mv t0, none, 0, 0, 0⟩,
  ⟨d12, .convInt .u32 t11, none, 0, 0, 0⟩,
  ⟨d13, .mv t1, none, 0, 0, 0⟩,
  ⟨d14, .convInt .u32 t13, none, 0, 0, 0⟩,
  ⟨d15, .call (.f 118) [t12, t14], none, 1, 0, 0⟩,
  ⟨d10, .mv t15, none, 0, 0, 0⟩,
  ⟨d16, .extract 0 t10, none, 0, 0, 0⟩,
  ⟨d17, .extract 1 t10, none, 0, 0, 0⟩,
  ⟨d6, .mv t16, none, 0, 0, 0⟩,
  ⟨d7, .mv t17, none, 0, 0, 0⟩])
 (.seq (.reg false [⟨d18, .mv t6, none, 0, 0, 0⟩,
  ⟨d19, .convInt .u64 t18, none, 0, 0, 0⟩,
  ⟨d20, .mv t7, none, 0, 0, 0⟩,
  ⟨d21, .convInt .u64 t20, none, 0, 0, 0⟩,
  ⟨d4, .mv t19, none, 0, 0, 0⟩,
  ⟨d5, .mv t21, none, 0, 0, 0⟩])
 .ret))
 .skip)
 (.seq (.reg false [⟨d23, .mv t0, none, 0, 0, 0⟩,
  ⟨d24, .mv t1, none, 0, 0, 0⟩,
  ⟨d25, .call (.f 119) [t23, t24], none, 1, 0, 0⟩,
  ⟨d22, .mv t25, none, 0, 0, 0⟩,
  ⟨d26, .extract 0 t22, none, 0, 0, 0⟩,
  ⟨d27, .extract 1 t22, none, 0, 0, 0⟩,
  ⟨d8, .mv t26, none, 0, 0, 0⟩,
  ⟨d9, .mv t27, none, 0, 0, 0⟩])
 (.seq (.reg false [⟨d28, .mv t8, none, 0, 0, 0⟩,
  ⟨d29, .mv t9, none, 0, 0, 0⟩,
  ⟨d4, .mv t28, none, 0, 0, 0⟩,
  ⟨d5, .mv t29, none, 0, 0, 0⟩])
 .ret))))⟩
theorem ok64 : GoodFn Tryz.prog kt (64, ir64) := ⟨Tryz.f64, fun _ _ => false, Tryz.func64, by kernel_rfl⟩
/- math/bits.Mul64 -/
def ir119 : IFn := ⟨2, [.t p4, .t p5],
 (.seq (.reg false [⟨d4, .mv (.c (.int .u64 (0))), none, 0, 0, 0⟩,
  ⟨d5, .mv (.c (.int .u64 (0))), none, 0, 0, 0⟩])
 (.seq (.reg false [⟨d14, .mv t0, none, 0, 0, 0⟩,
  ⟨d15, .bin .and .scalar t14 (.c (.int .u64 (4294967295))), none, 0, 0, 0⟩,
  ⟨d6, .mv t15, none, 0, 0, 0⟩])
 (.seq (.reg false [⟨d16, .mv t0, none, 0, 0, 0⟩,
  ⟨d17, .bin .shr .scalar t16 (.c (.int .u64 (32))), none, 0, 0, 0⟩,
  ⟨d7, .mv t17, none, 0, 0, 0⟩])
 (.seq (.reg false [⟨d18, .mv t1, none, 0, 0, 0⟩,
  ⟨d19, .bin .and .scalar t18 (.c (.int .u64 (4294967295))), none, 0, 0, 0⟩,
  ⟨d8, .mv t19, none, 0, 0, 0⟩])
 (.seq (.reg false [⟨d20, .mv t1, none, 0, 0, 0⟩,
  ⟨d21, .bin .shr .scalar t20 (.c (.int .u64 (32))), none, 0, 0, 0⟩,
  ⟨d9, .mv t21, none, 0, 0, 0⟩])
 (.seq (.reg false [⟨d22, .mv t6, none, 0, 0, 0⟩,
  ⟨d23, .mv t8, none, 0, 0, 0⟩,
  ⟨d24, .bin .mul .scalar t22 t23, none, 0, 0, 0⟩,
  ⟨d10, .mv t24, none, 0, 0, 0⟩])
 (.seq (.reg false [⟨d25, .mv t7, none, 0, 0, 0⟩,
  ⟨d26, .mv t8, none, 0, 0, 0⟩,
  ⟨d27, .bin .mul .scalar t25 t26, none, 0, 0, 0⟩,
  ⟨d28, .mv t10, none, 0, 0, 0⟩,
  ⟨d29, .bin .shr .scalar t28 (.c (.int .u64 (32))), none, 0, 0, 0⟩,
  ⟨d30, .bin .add .scalar t27 t29, none, 0, 0, 0⟩,
  ⟨d11, .mv t30, none, 0, 0, 0⟩])
 (.seq (.reg false [⟨d31, .mv t11, none, 0, 0, 0⟩,
  ⟨d32, .bin .and .scalar t31 (.c (.int .u64 (4294967295))), none, 0, 0, 0⟩,
  ⟨d12, .mv t32, none, 0, 0, 0⟩])
 (.seq (.reg false [⟨d33, .mv t11, none, 0, 0, 0⟩,
  ⟨d34, .bin .shr .scalar t33 (.c (.int .u64 (32))), none, 0, 0, 0⟩,
  ⟨d13, .mv t34, none, 0, 0, 0⟩])
 (.seq (.reg false [⟨d35, .mv t12, none, 0, 0, 0⟩,
  ⟨d36, .mv t6, none, 0, 0, 0⟩,
  ⟨d37, .mv t9, none, 0, 0, 0⟩,
  ⟨d38, .bin .mul .scalar t36 t37, none, 0, 0, 0⟩,
  ⟨d39, .bin .add .scalar t35 t38, none, 0, 0, 0⟩,
  ⟨d12, .mv t39, none, 0, 0, 0⟩])
 (.seq (.reg false [⟨d40, .mv t7, none, 0, 0, 0⟩,
  ⟨d41, .mv t9, none, 0, 0, 0⟩,
  ⟨d42, .bin .mul .scalar t40 t41, none, 0, 0, 0⟩,
  ⟨d43, .mv t13, none, 0, 0, 0⟩,
  ⟨d44, .bin .add .scalar t42 t43, none, 0, 0, 0⟩,
  ⟨d45, .mv t12, none, 0, 0, 0⟩,
  ⟨d46, .bin .shr .scalar t45 (.c (.int .u64 (32))), none, 0, 0, 0⟩,
  ⟨d47, .bin .add .scalar t44 t46, none, 0, 0, 0⟩,
  ⟨d4, .mv t47, none, 0, 0, 0⟩])
 (.seq (.reg false [⟨d48, .mv t0, none, 0, 0, 0⟩,
  ⟨d49, .mv t1, none, 0, 0, 0⟩,
  ⟨d50, .bin .mul .scalar t48 t49, none, 0, 0, 0⟩,
  ⟨d5, .mv t50, none, 0, 0, 0⟩])
 .ret))))))))))))⟩
theorem ok119 : GoodFn Tryz.prog kt (119, ir119) := ⟨Tryz.f119, fun _ _ => false, Tryz.func119, by kernel_rfl⟩
/- firkin/retry.Sure$1 -/
def ir95 : IFn := ⟨2, [.t p2],
 (.seq (.reg false [⟨d2, .mv (.c (.int .i64 (0))), none, 0, 0, 0⟩])
 (.seq (.reg false [⟨d4, .load false 1 t0, none, 1, 0, 0⟩,
  ⟨d5, .call t4 [], none, 3, 0, 0⟩,
  ⟨d3, .mv t5, none, 0, 0, 0⟩])
 (.seq (.reg false [⟨d6, .load false 1 t1, none, 1, 0, 0⟩,
  ⟨d7, .mv t6, none, 0, 0, 0⟩,
  ⟨d8, .mv t3, (some (p7, false)), 0, 0, 0⟩,
  ⟨d9, .bin .eql .scalar t8 (.c (.int .i64 (11))), (some (p7, false)), 0, 0, 0⟩,
  ⟨d10, .pick t7 (.c (.bool true)) t9, none, 0, 0, 0⟩,
  ⟨none, .store 1 t1 t10, none, 3, 0, 0⟩])
 (.seq (.reg false [⟨d11, .mv t3, none, 0, 0, 0⟩,
  ⟨d2, .mv t11, none, 0, 0, 0⟩])
 .ret))))⟩
theorem ok95 : GoodFn Tryz.prog kt (95, ir95) := ⟨Tryz.f95, fun _ _ => false, Tryz.func95, by kernel_rfl⟩
/- firkin/mark.Commit$1 -/
def ir41 : IFn := ⟨3, [.t p3],
 (.seq (.reg false [⟨d3, .mv (.c (.int .i64 (0))), none, 0, 0, 0⟩])
 (.seq (.reg false [⟨d4, .load false 1 t0, none, 1, 0, 0⟩,
  ⟨d5, .load false 1 t1, none, 1, 0, 0⟩,
  ⟨d6, .load false 1 t2, none, 1, 0, 0⟩,
  ⟨d7, .call (.f 42) [t4, t5, t6], none, 3, 0, 0⟩,
  ⟨d3, .mv t7, none, 0, 0, 0⟩])
 .ret))⟩
theorem ok41 : GoodFn Tryz.prog kt (41, ir41) := ⟨Tryz.f41, fun _ _ => false, Tryz.func41, by kernel_rfl⟩
/- (*firkin/world.World).put -/
def ir96 : IFn := ⟨4, [.t p8],
 (.seq (.reg false [⟨d4, .box t0, none, 3, 0, 0⟩,
  ⟨d5, .box t1, none, 3, 0, 0⟩,
  ⟨d6, .box t2, none, 3, 0, 0⟩,
  ⟨d7, .box t3, none, 3, 0, 0⟩,
  ⟨d8, .mv (.c (.int .i64 (0))), none, 0, 0, 0⟩])
 (.seq (.reg true [⟨d9, .load false 1 t4, none, 1, 0, 0⟩,
  ⟨d10, .load false 1 t5, none, 1, 0, 0⟩,
  ⟨d11, .call (.f 111) [t10], none, 1, 0, 0⟩,
  ⟨d12, .mv t11, none, 0, 0, 0⟩,
  ⟨d13, .load false 1 t6, (some (p12, true)), 1, 0, 0⟩,
  ⟨d14, .len 1 t13, (some (p12, true)), 1, 0, 0⟩,
  ⟨d15, .bin .leq .scalar t14 (.c (.int .i64 (1048576))), (some (p12, true)), 0, 0, 0⟩,
  ⟨d16, .pick t12 t15 (.c (.bool false)), none, 0, 0, 0⟩,
  ⟨d17, .mkfunc (.func 151) [] [t4, t5, t7, t6], none, 0, 0, 0⟩,
  ⟨d18, .call (.f 110) [t9, t16, t17], none, 3, 0, 0⟩,
  ⟨d8, .mv t18, none, 0, 0, 0⟩])
 .ret))⟩
theorem ok96 : GoodFn Tryz.prog kt (96, ir96) := ⟨Tryz.f96, fun _ _ => false, Tryz.func96, by kernel_rfl⟩
/- (*firkin/world.World).Step -/
def ir163 : IFn := ⟨1, [.t p2],
 (.seq (.reg false [⟨d2, .mv (.c (.int .i64 (0))), none, 0, 0, 0⟩])
 (.seq (.block 0 (.seq (.reg false [⟨d4, .mv t0, none, 0, 0, 0⟩,
  ⟨d5, .call (.f 49) [t4], none, 1, 0, 0⟩,
  ⟨d6, .un .not t5, none, 0, 0, 0⟩,
  ⟨d3, .mv t6, none, 0, 0, 0⟩])
 (.cond t3
 (.seq (.reg false [⟨d2, .mv (.c (.int .i64 (9))), none, 0, 0, 0⟩])
 .ret)
 (.seq (.reg false [⟨d8, .mv t0, none, 0, 0, 0⟩,
  ⟨d9, .nilCheck t8, none, 0, 0, 0⟩,
  ⟨d10, .faddr 3 t9, none, 0, 0, 0⟩,
  ⟨d11, .load false 1 t10, none, 1, 0, 0⟩,
  ⟨d7, .mv t11, none, 0, 0, 0⟩])
 (.cond t7
 (.seq (.reg false [⟨d2, .mv (.c (.int .i64 (8))), none, 0, 0, 0⟩])
 .ret)
 .skip)))))
 (.seq (.reg false [⟨d12, .mv t0, none, 0, 0, 0⟩,
  ⟨d13, .nilCheck t12, none, 0, 0, 0⟩,
  ⟨d14, .faddr 4 t13, none, 0, 0, 0⟩,
  ⟨d15, .load false 1 t14, none, 1, 0, 0⟩,
  ⟨d16, .bin .add .scalar t15 (.c (.int .i64 (1))), none, 0, 0, 0⟩,
  ⟨d17, .nilCheck t12, none, 0, 0, 0⟩,
  ⟨d18, .faddr 4 t17, none, 0, 0, 0⟩,
  ⟨none, .store 1 t18 t16, none, 3, 0, 0⟩])
 (.seq (.seq (.reg false [⟨d19, .mv t0, none, 0, 0, 0⟩,
  ⟨d20, .nilCheck t19, none, 0, 0, 0⟩,
  ⟨d21, .faddr 2 t20, none, 0, 0, 0⟩,
  ⟨d22, .load false 1 t21, none, 1, 0, 0⟩,
  ⟨d23, .bin .gtr .scalar t22 (.c (.int .i64 (0))), none, 0, 0, 0⟩])
 (.cond t23
 (.seq (.reg false [⟨d24, .mv t0, none, 0, 0, 0⟩,
  ⟨d25, .nilCheck t24, none, 0, 0, 0⟩,
  ⟨d26, .faddr 2 t25, none, 0, 0, 0⟩,
  ⟨d27, .load false 1 t26, none, 1, 0, 0⟩,
  ⟨d28, .bin .sub .scalar t27 (.c (.int .i64 (1))), none, 0, 0, 0⟩,
  ⟨d29, .nilCheck t24, none, 0, 0, 0⟩,
  ⟨d30, .faddr 2 t29, none, 0, 0, 0⟩,
  ⟨none, .store 1 t30 t28, none, 3, 0, 0⟩])
 (.reg false [⟨d31, .mv t0, none, 0, 0, 0⟩,
  ⟨d32, .mv t0, none, 0, 0, 0⟩,
  ⟨d33, .nilCheck t32, none, 0, 0, 0⟩,
  ⟨d34, .faddr 2 t33, none, 0, 0, 0⟩,
  ⟨d35, .load false 1 t34, none, 1, 0, 0⟩,
  ⟨d36, .bin .eql .scalar t35 (.c (.int .i64 (0))), none, 0, 0, 0⟩,
  ⟨d37, .nilCheck t31, none, 0, 0, 0⟩,
  ⟨d38, .faddr 3 t37, none, 0, 0, 0⟩,
  ⟨none, .store 1 t38 t36, none, 3, 0, 0⟩]))
 .skip))
 (.seq (.reg false [⟨d2, .mv (.c (.int .i64 (0))), none, 0, 0, 0⟩])
 .ret)))))⟩
theorem ok163 : GoodFn Tryz.prog kt (163, ir163) := ⟨Tryz.f163, fun _ _ => false, Tryz.func163, by kernel_rfl⟩
/- bytes.Clone -/
def ir135 : IFn := ⟨1, [.t p2],
 (.seq (.reg false [⟨d2, .mv (.c (.slice none 0 0)), none, 0, 0, 0⟩])
 (.seq (.seq (.reg false [⟨d3, .mv t0, none, 0, 0, 0⟩,
  ⟨d4, .bin .eql (.ref .slice) t3 (.c (.slice none 0 0)), none, 0, 0, 0⟩])
 (.cond t4
 (.seq (.reg false [⟨d2, .mv (.c (.slice none 0 0)), none, 0, 0, 0⟩])
 .ret)
 .skip))
 (.seq (.reg false [⟨d5, .lit 1 0 (.int .u8 (0)) [], none, 0, 0, 0⟩,
  ⟨d6, .mv t0, none, 0, 0, 0⟩,
  ⟨d7, .append false 1 1 none t5 t6, none, 3, 0, 0⟩,
  ⟨d2, .mv t7, none, 0, 0, 0⟩])
 .ret)))⟩
theorem ok135 : GoodFn Tryz.prog kt (135, ir135) := ⟨Tryz.f135, fun _ _ => false, Tryz.func135, by kernel_rfl⟩
/- firkin/mark.greatest -/
def ir36 : IFn := ⟨2, [.t p4, .t p5],
 (.seq (.reg false [⟨d2, .box t0, none, 3, 0, 0⟩,
  ⟨d4, .mv (.c (.int .i64 (0))), none, 0, 0, 0⟩,
  ⟨d5, .mv (.c (.int .i64 (0))), none, 0, 0, 0⟩])
 (.seq (.reg false [⟨d6, .alloc [(.slice none 0 0)], none, 2, 0, 0⟩])
 (.seq (.reg false [⟨d15, .mv t1, none, 0, 0, 0⟩,
  ⟨d16, .mkfunc (.func 79) [] [t2, t6], none, 0, 0, 0⟩,
  ⟨d17, .call (.f 78) [t15, t16], none, 3, 0, 0⟩,
  ⟨d14, .mv t17, none, 0, 0, 0⟩,
  ⟨d18, .extract 0 t14, none, 0, 0, 0⟩,
  ⟨d19, .extract 1 t14, none, 0, 0, 0⟩,
  ⟨d7, .mv t18, none, 0, 0, 0⟩,
  ⟨d8, .mv t19, none, 0, 0, 0⟩])
 (.seq (.reg false [⟨d9, .mv (.c (.int .i64 (0))), none, 0, 0, 0⟩])
 (.seq (.seq (.reg false [⟨d20, .load false 1 t6, none, 1, 0, 0⟩,
  ⟨d21, .len 1 t20, none, 1, 0, 0⟩,
  ⟨d22, .mv (.c (.int .i64 (0))), none, 0, 0, 0⟩])
 (.block 0 (.loop (.seq (.reg false [⟨d23, .bin .lss .scalar t22 t21, none, 0, 0, 0⟩])
 (.seq (.cond t23
 .skip
 (.exit 0))
 (.seq (.block 1 (.seq (.reg false [⟨d24, .iaddr none 1 t20 t22, none, 0, 0, 0⟩,
  ⟨d25, .load false 1 t24, none, 1, 0, 0⟩,
  ⟨d11, .mv t25, none, 0, 0, 0⟩])
 (.seq (.reg false [⟨d27, .mv t11, none, 0, 0, 0⟩,
  ⟨d28, .call (.f 9) [t27], none, 1, 0, 0⟩,
  ⟨d26, .mv t28, none, 0, 0, 0⟩,
  ⟨d29, .extract 0 t26, none, 0, 0, 0⟩,
  ⟨d30, .extract 1 t26, none, 0, 0, 0⟩,
  ⟨d12, .mv t29, none, 0, 0, 0⟩,
  ⟨d13, .mv t30, none, 0, 0, 0⟩])
 (.seq (.reg false [⟨d31, .mv t13, none, 0, 0, 0⟩])
 (.cond t31
 (.reg false [⟨d32, .mv t9, none, 0, 0, 0⟩,
  ⟨d33, .mv t12, none, 0, 0, 0⟩,
  ⟨d34, .minmax true [t32, t33], none, 0, 0, 0⟩,
  ⟨d9, .mv t34, none, 0, 0, 0⟩])
 .skip)))))
 (.reg false [⟨d35, .bin .add .scalar t22 (.c (.int .i64 (1))), none, 0, 0, 0⟩,
  ⟨d22, .mv t35, none, 0, 0, 0⟩])))))))
 (.seq (.reg false [⟨d36, .mv t9, none, 0, 0, 0⟩,
  ⟨d37, .mv t7, none, 0, 0, 0⟩,
  ⟨d4, .mv t36, none, 0, 0, 0⟩,
  ⟨d5, .mv t37, none, 0, 0, 0⟩])
 .ret))))))⟩
theorem ok36 : GoodFn Tryz.prog kt (36, ir36) := ⟨Tryz.f36, fun _ _ => false, Tryz.func36, by kernel_rfl⟩
/- (*firkin/world.World).List$1 -/
def ir131 : IFn := ⟨0, [.t p0],
 (.seq (.reg false [⟨d0, .mv (.c (.int .i64 (0))), none, 0, 0, 0⟩])
 (.seq (.reg false [⟨d0, .mv (.c (.int .i64 (0))), none, 0, 0, 0⟩])
 .ret))⟩
theorem ok131 : GoodFn Tryz.prog kt (131, ir131) := ⟨Tryz.f131, fun _ _ => false, Tryz.func131, by kernel_rfl⟩
/- maps.Keys[map[string][]byte,string,[]byte] -/
def ir62 : IFn := ⟨1, [.t p2],
 (.seq (.reg false [⟨d1, .box t0, none, 3, 0, 0⟩,
  ⟨d2, .mv (.c .nilFunc), none, 0, 0, 0⟩])
 (.seq (.reg false [⟨d3, .mkfunc (.func 116) [] [t1], none, 0, 0, 0⟩,
  ⟨d2, .mv t3, none, 0, 0, 0⟩])
 .ret))⟩
theorem ok62 : GoodFn Tryz.prog kt (62, ir62) := ⟨Tryz.f62, fun _ _ => false, Tryz.func62, by kernel_rfl⟩
/- slices.IndexFunc[[]string,string] -/
def ir179 : IFn := ⟨2, [.t p4],
 (.seq (.reg false [⟨d4, .mv (.c (.int .i64 (0))), none, 0, 0, 0⟩])
 (.seq (.seq (.reg false [⟨d6, .mv t0, none, 0, 0, 0⟩,
  ⟨d7, .len 1 t6, none, 1, 0, 0⟩,
  ⟨d8, .mv (.c (.int .i64 (0))), none, 0, 0, 0⟩])
 (.block 0 (.loop (.seq (.reg false [⟨d9, .bin .lss .scalar t8 t7, none, 0, 0, 0⟩])
 (.seq (.cond t9
 .skip
 (.exit 0))
 (.seq (.block 1 (.seq (.reg false [⟨d10, .mv t8, none, 0, 0, 0⟩,
  ⟨d5, .mv t10, none, 0, 0, 0⟩])
 (.seq (.reg false [⟨d11, .mv t1, none, 0, 0, 0⟩,
  ⟨d12, .mv t0, none, 0, 0, 0⟩,
  ⟨d13, .mv t5, none, 0, 0, 0⟩,
  ⟨d14, .iaddr none 1 t12 t13, none, 0, 0, 0⟩,
  ⟨d15, .load false 1 t14, none, 1, 0, 0⟩,
  ⟨d16, .call t11 [t15], none, 3, 0, 0⟩])
 (.cond t16
 (.seq (.reg false [⟨d17, .mv t5, none, 0, 0, 0⟩,
  ⟨d4, .mv t17, none, 0, 0, 0⟩])
 .ret)
 .skip))))
 (.reg false [⟨d18, .bin .add .scalar t8 (.c (.int .i64 (1))), none, 0, 0, 0⟩,
  ⟨d8, .mv t18, none, 0, 0, 0⟩])))))))
 (.seq (.reg false [⟨d4, .mv (.c (.int .i64 (-1))), none, 0, 0, 0⟩])
 .ret)))⟩
theorem ok179 : GoodFn Tryz.prog kt (179, ir179) := ⟨Tryz.f179, fun _ _ => false, Tryz.func179, by kernel_rfl⟩
/- internal/stringslite.TrimPrefix -/
def ir76 : IFn := ⟨2, [.t p4],
 (.seq (.reg false [⟨d4, .mv (.c (.string (bsN []))), none, 0, 0, 0⟩])
 (.seq (.seq (.reg false [⟨d5, .mv t0, none, 0, 0, 0⟩,
  ⟨d6, .mv t1, none, 0, 0, 0⟩,
  ⟨d7, .call (.f 120) [t5, t6], none, 1, 0, 0⟩])
 (.cond t7
 (.seq (.reg false [⟨d8, .mv t0, none, 0, 0, 0⟩,
  ⟨d9, .mv t1, none, 0, 0, 0⟩,
  ⟨d10, .len 0 t9, none, 1, 0, 0⟩,
  ⟨d11, .slice 0 0 0 t8 (some t10) none none, none, 0, 0, 0⟩,
  ⟨d4, .mv t11, none, 0, 0, 0⟩])
 .ret)
 .skip))
 (.seq (.reg false [⟨d12, .mv t0, none, 0, 0, 0⟩,
  ⟨d4, .mv t12, none, 0, 0, 0⟩])
 .ret)))⟩
theorem ok76 : GoodFn Tryz.prog kt (76, ir76) := ⟨Tryz.f76, fun _ _ => false, Tryz.func76, by kernel_rfl⟩
/- strings.trimLeftByte -/
def ir72 : IFn := ⟨2, [.t p4],
 (.seq (.reg false [⟨d4, .mv (.c (.string (bsN []))), none, 0, 0, 0⟩])
 (.seq (.block 0 (.loop (.seq (.seq (.reg false [⟨d5, .mv t0, none, 0, 0, 0⟩,
  ⟨d6, .len 0 t5, none, 1, 0, 0⟩,
  ⟨d7, .bin .gtr .scalar t6 (.c (.int .i64 (0))), none, 0, 0, 0⟩,
  ⟨d8, .mv t7, none, 0, 0, 0⟩,
  ⟨d9, .mv t0, (some (p8, true)), 0, 0, 0⟩,
  ⟨d10, .index none t9 (.c (.int .i64 (0))), (some (p8, true)), 0, 0, 0⟩,
  ⟨d11, .mv t1, (some (p8, true)), 0, 0, 0⟩,
  ⟨d12, .bin .eql .scalar t10 t11, (some (p8, true)), 0, 0, 0⟩,
  ⟨d13, .pick t8 t12 (.c (.bool false)), none, 0, 0, 0⟩])
 (.cond t13
 .skip
 (.exit 0)))
 (.block 1 (.reg false [⟨d14, .mv t0, none, 0, 0, 0⟩,
  ⟨d15, .slice 0 0 0 t14 (some (.c (.int .i64 (1)))) none none, none, 0, 0, 0⟩,
  ⟨d0, .mv t15, none, 0, 0, 0⟩])))))
 (.seq (.reg false [⟨d16, .mv t0, none, 0, 0, 0⟩,
  ⟨d4, .mv t16, none, 0, 0, 0⟩])
 .ret)))⟩
theorem ok72 : GoodFn Tryz.prog kt (72, ir72) := ⟨Tryz.f72, fun _ _ => false, Tryz.func72, by kernel_rfl⟩
/- firkin/mark.get -/
def ir37 : IFn := ⟨3, [.t p6, .t p7],
 (.seq (.reg false [⟨d3, .box t0, none, 3, 0, 0⟩,
  ⟨d4, .box t1, none, 3, 0, 0⟩,
  ⟨d6, .mv (.c (.slice none 0 0)), none, 0, 0, 0⟩,
  ⟨d7, .mv (.c (.int .i64 (0))), none, 0, 0, 0⟩])
 (.seq (.reg false [⟨d8, .alloc [(.slice none 0 0)], none, 2, 0, 0⟩])
 (.seq (.reg false [⟨d12, .mv t2, none, 0, 0, 0⟩,
  ⟨d13, .mkfunc (.func 81) [] [t3, t4, t8], none, 0, 0, 0⟩,
  ⟨d14, .call (.f 78) [t12, t13], none, 3, 0, 0⟩,
  ⟨d11, .mv t14, none, 0, 0, 0⟩,
  ⟨d15, .extract 0 t11, none, 0, 0, 0⟩,
  ⟨d16, .extract 1 t11, none, 0, 0, 0⟩,
  ⟨d9, .mv t15, none, 0, 0, 0⟩,
  ⟨d10, .mv t16, none, 0, 0, 0⟩])
 (.seq (.reg false [⟨d17, .load false 1 t8, none, 1, 0, 0⟩,
  ⟨d18, .mv t9, none, 0, 0, 0⟩,
  ⟨d6, .mv t17, none, 0, 0, 0⟩,
  ⟨d7, .mv t18, none, 0, 0, 0⟩])
 .ret))))⟩
theorem ok37 : GoodFn Tryz.prog kt (37, ir37) := ⟨Tryz.f37, fun _ _ => false, Tryz.func37, by kernel_rfl⟩
/- (*firkin/world.World).Get -/
def ir82 : IFn := ⟨4, [.t p8, .t p9],
 (.seq (.reg false [⟨d4, .box t0, none, 3, 0, 0⟩,
  ⟨d5, .box t1, none, 3, 0, 0⟩,
  ⟨d6, .box t2, none, 3, 0, 0⟩,
  ⟨d7, .box t3, none, 3, 0, 0⟩,
  ⟨d8, .mv (.c (.slice none 0 0)), none, 0, 0, 0⟩,
  ⟨d9, .mv (.c (.int .i64 (0))), none, 0, 0, 0⟩])
 (.seq (.reg false [⟨d10, .alloc [(.slice none 0 0)], none, 2, 0, 0⟩])
 (.seq (.reg true [⟨d12, .load false 1 t4, none, 1, 0, 0⟩,
  ⟨d13, .load false 1 t5, none, 1, 0, 0⟩,
  ⟨d14, .call (.f 111) [t13], none, 1, 0, 0⟩,
  ⟨d15, .mv t14, none, 0, 0, 0⟩,
  ⟨d16, .load false 1 t6, (some (p15, true)), 1, 0, 0⟩,
  ⟨d17, .bin .geq .scalar t16 (.c (.int .i64 (0))), (some (p15, true)), 0, 0, 0⟩,
  ⟨d18, .pick t15 t17 (.c (.bool false)), none, 0, 0, 0⟩,
  ⟨d19, .mv t18, none, 0, 0, 0⟩,
  ⟨d20, .load false 1 t7, (some (p19, true)), 1, 0, 0⟩,
  ⟨d21, .bin .geq .scalar t20 (.c (.int .i64 (-1))), (some (p19, true)), 0, 0, 0⟩,
  ⟨d22, .pick t19 t21 (.c (.bool false)), none, 0, 0, 0⟩,
  ⟨d23, .mkfunc (.func 134) [] [t4, t5, t6, t7, t10], none, 0, 0, 0⟩,
  ⟨d24, .call (.f 110) [t12, t22, t23], none, 3, 0, 0⟩,
  ⟨d11, .mv t24, none, 0, 0, 0⟩])
 (.seq (.seq (.reg false [⟨d25, .mv t11, none, 0, 0, 0⟩,
  ⟨d26, .bin .neq .scalar t25 (.c (.int .i64 (0))), none, 0, 0, 0⟩])
 (.cond t26
 (.seq (.reg false [⟨d27, .mv t11, none, 0, 0, 0⟩,
  ⟨d8, .mv (.c (.slice none 0 0)), none, 0, 0, 0⟩,
  ⟨d9, .mv t27, none, 0, 0, 0⟩])
 .ret)
 .skip))
 (.seq (.reg false [⟨d28, .load false 1 t10, none, 1, 0, 0⟩,
  ⟨d8, .mv t28, none, 0, 0, 0⟩,
  ⟨d9, .mv (.c (.int .i64 (0))), none, 0, 0, 0⟩])
 .ret)))))⟩
theorem ok82 : GoodFn Tryz.prog kt (82, ir82) := ⟨Tryz.f82, fun _ _ => false, Tryz.func82, by kernel_rfl⟩
/- firkin/manif.Get -/
def ir38 : IFn := ⟨1, [.cell p2 true 3, .t p3],
 (.seq (.reg false [⟨d2, .alloc [(.int .i64 (0)), (.int .i64 (0)), (.slice none 0 0)], none, 2, 0, 0⟩,
  ⟨d3, .mv (.c (.int .i64 (0))), none, 0, 0, 0⟩])
 (.seq (.reg false [⟨d11, .mv t0, none, 0, 0, 0⟩,
  ⟨d12, .call (.f 83) [t11], none, 1, 0, 0⟩,
  ⟨d10, .mv t12, none, 0, 0, 0⟩,
  ⟨d13, .extract 0 t10, none, 0, 0, 0⟩,
  ⟨d14, .extract 1 t10, none, 0, 0, 0⟩,
  ⟨d15, .extract 2 t10, none, 0, 0, 0⟩,
  ⟨d4, .mv t13, none, 0, 0, 0⟩,
  ⟨d5, .mv t14, none, 0, 0, 0⟩,
  ⟨d6, .mv t15, none, 0, 0, 0⟩])
 (.seq (.seq (.reg false [⟨d16, .mv t6, none, 0, 0, 0⟩,
  ⟨d17, .bin .neq .scalar t16 (.c (.int .i64 (0))), none, 0, 0, 0⟩])
 (.cond t17
 (.seq (.reg false [⟨d18, .build [(.int .i64 (0)), (.int .i64 (0)), (.slice none 0 0)] [], none, 0, 0, 0⟩,
  ⟨d19, .mv t6, none, 0, 0, 0⟩,
  ⟨none, .store 3 t2 t18, none, 3, 0, 0⟩,
  ⟨d3, .mv t19, none, 0, 0, 0⟩])
 .ret)
 .skip))
 (.seq (.reg false [⟨d20, .mv t4, none, 0, 0, 0⟩,
  ⟨d21, .call (.f 84) [t20], none, 3, 0, 0⟩,
  ⟨d7, .mv t21, none, 0, 0, 0⟩])
 (.seq (.reg false [⟨d22, .mv t7, none, 0, 0, 0⟩,
  ⟨d23, .call (.f 85) [t22, (.c (.int .i64 (1073741825)))], none, 3, 0, 0⟩,
  ⟨d24, .mv t7, none, 0, 0, 0⟩,
  ⟨d25, .call (.f 85) [t24, (.c (.int .i64 (1073741825)))], none, 3, 0, 0⟩,
  ⟨d26, .build [(.int .i64 (0)), (.int .i64 (0)), (.slice none 0 0)] [(0, 1, t23), (1, 1, t25)], none, 0, 0, 0⟩,
  ⟨d8, .alloc [(.int .i64 (0)), (.int .i64 (0)), (.slice none 0 0)], none, 2, 0, 0⟩,
  ⟨none, .store 3 t8 t26, none, 3, 0, 0⟩])
 (.seq (.seq (.reg false [⟨d27, .mv t7, none, 0, 0, 0⟩,
  ⟨d28, .call (.f 85) [t27, (.c (.int .i64 (7)))], none, 3, 0, 0⟩,
  ⟨d9, .mv t28, none, 0, 0, 0⟩])
 (.block 0 (.loop (.seq (.seq (.reg false [⟨d29, .mv t9, none, 0, 0, 0⟩,
  ⟨d30, .bin .gtr .scalar t29 (.c (.int .i64 (0))), none, 0, 0, 0⟩,
  ⟨d31, .mv t30, none, 0, 0, 0⟩,
  ⟨d32, .mv t7, (some (p31, true)), 0, 0, 0⟩,
  ⟨d33, .call (.f 86) [t32], (some (p31, true)), 1, 0, 0⟩,
  ⟨d34, .pick t31 t33 (.c (.bool false)), none, 0, 0, 0⟩])
 (.cond t34
 .skip
 (.exit 0)))
 (.seq (.block 1 (.reg true [⟨d37, .faddr 2 t8, none, 0, 0, 0⟩,
  ⟨d38, .load false 1 t37, none, 1, 0, 0⟩,
  ⟨d39, .mv t7, none, 0, 0, 0⟩,
  ⟨d40, .call (.f 87) [t39], none, 1, 0, 0⟩,
  ⟨d41, .lit 3 1 (.agg #[(.string (bsN [])), (.slice none 0 0), (.slice none 0 0)]) [(0, t40)], none, 0, 0, 0⟩,
  ⟨d42, .append false 3 64 none t38 t41, none, 3, 0, 0⟩,
  ⟨d43, .faddr 2 t8, none, 0, 0, 0⟩,
  ⟨none, .store 1 t43 t42, none, 3, 0, 0⟩]))
 (.reg false [⟨d35, .mv t9, none, 0, 0, 0⟩,
  ⟨d36, .bin .sub .scalar t35 (.c (.int .i64 (1))), none, 0, 0, 0⟩,
  ⟨d9, .mv t36, none, 0, 0, 0⟩]))))))
 (.seq (.seq (.reg false [⟨d44, .mv t7, none, 0, 0, 0⟩,
  ⟨d45, .call (.f 88) [t44], none, 1, 0, 0⟩,
  ⟨d46, .un .not t45, none, 0, 0, 0⟩,
  ⟨d47, .mv t46, none, 0, 0, 0⟩,
  ⟨d48, .mv t5, (some (p47, false)), 0, 0, 0⟩,
  ⟨d49, .mv t0, (some (p47, false)), 0, 0, 0⟩,
  ⟨d50, .len 1 t49, (some (p47, false)), 1, 0, 0⟩,
  ⟨d51, .bin .neq .scalar t48 t50, (some (p47, false)), 0, 0, 0⟩,
  ⟨d52, .pick t47 (.c (.bool true)) t51, none, 0, 0, 0⟩,
  ⟨d53, .mv t52, none, 0, 0, 0⟩,
  ⟨d54, .load true 3 t8, (some (p53, false)), 1, 0, 0⟩,
  ⟨d55, .call (.f 89) [t54], (some (p53, false)), 1, 0, 0⟩,
  ⟨d56, .bin .neq .scalar t55 (.c (.int .i64 (0))), (some (p53, false)), 0, 0, 0⟩,
  ⟨d57, .pick t53 (.c (.bool true)) t56, none, 0, 0, 0⟩])
 (.cond t57
 (.seq (.reg false [⟨d58, .build [(.int .i64 (0)), (.int .i64 (0)), (.slice none 0 0)] [], none, 0, 0, 0⟩,
  ⟨none, .store 3 t2 t58, none, 3, 0, 0⟩,
  ⟨d3, .mv (.c (.int .i64 (2))), none, 0, 0, 0⟩])
 .ret)
 .skip))
 (.seq (.reg false [⟨d59, .load true 3 t8, none, 1, 0, 0⟩,
  ⟨none, .store 3 t2 t59, none, 3, 0, 0⟩,
  ⟨d3, .mv (.c (.int .i64 (0))), none, 0, 0, 0⟩])
 .ret))))))))⟩
theorem ok38 : GoodFn Tryz.prog kt (38, ir38) := ⟨Tryz.f38, fun _ _ => false, Tryz.func38, by kernel_rfl⟩
/- (*firkin/vint.Source).Left -/
def ir138 : IFn := ⟨1, [.t p2],
 (.seq (.reg false [⟨d2, .mv (.c (.int .i64 (0))), none, 0, 0, 0⟩])
 (.seq (.seq (.reg false [⟨d3, .mv t0, none, 0, 0, 0⟩,
  ⟨d4, .call (.f 86) [t3], none, 1, 0, 0⟩,
  ⟨d5, .un .not t4, none, 0, 0, 0⟩])
 (.cond t5
 (.seq (.reg false [⟨d2, .mv (.c (.int .i64 (0))), none, 0, 0, 0⟩])
 .ret)
 .skip))
 (.seq (.reg false [⟨d6, .mv t0, none, 0, 0, 0⟩,
  ⟨d7, .nilCheck t6, none, 0, 0, 0⟩,
  ⟨d8, .faddr 0 t7, none, 0, 0, 0⟩,
  ⟨d9, .load false 1 t8, none, 1, 0, 0⟩,
  ⟨d10, .len 1 t9, none, 1, 0, 0⟩,
  ⟨d2, .mv t10, none, 0, 0, 0⟩])
 .ret)))⟩
theorem ok138 : GoodFn Tryz.prog kt (138, ir138) := ⟨Tryz.f138, fun _ _ => false, Tryz.func138, by kernel_rfl⟩
/- (*firkin/vint.Source).End -/
def ir88 : IFn := ⟨1, [.t p2],
 (.seq (.reg false [⟨d2, .mv (.c (.bool false)), none, 0, 0, 0⟩])
 (.seq (.reg false [⟨d3, .mv t0, none, 0, 0, 0⟩,
  ⟨d4, .call (.f 86) [t3], none, 1, 0, 0⟩,
  ⟨d5, .mv t4, none, 0, 0, 0⟩,
  ⟨d6, .mv t0, (some (p5, true)), 0, 0, 0⟩,
  ⟨d7, .nilCheck t6, (some (p5, true)), 0, 0, 0⟩,
  ⟨d8, .faddr 0 t7, (some (p5, true)), 0, 0, 0⟩,
  ⟨d9, .load false 1 t8, (some (p5, true)), 1, 0, 0⟩,
  ⟨d10, .len 1 t9, (some (p5, true)), 1, 0, 0⟩,
  ⟨d11, .bin .eql .scalar t10 (.c (.int .i64 (0))), (some (p5, true)), 0, 0, 0⟩,
  ⟨d12, .pick t5 t11 (.c (.bool false)), none, 0, 0, 0⟩,
  ⟨d2, .mv t12, none, 0, 0, 0⟩])
 .ret))⟩
theorem ok88 : GoodFn Tryz.prog kt (88, ir88) := ⟨Tryz.f88, fun _ _ => false, Tryz.func88, by kernel_rfl⟩
/- firkin/firkinlaw34.MarkNil -/
def ir4 : IFn := ⟨2, [.t p4],
 (.seq (.reg false [⟨d2, .box t0, none, 3, 0, 0⟩,
  ⟨d4, .mv (.c (.bool false)), none, 0, 0, 0⟩])
 (.seq (.seq (.reg false [⟨d12, .load true 3 t2, none, 1, 0, 0⟩,
  ⟨d13, .call (.f 15) [t12], none, 1, 0, 0⟩,
  ⟨d14, .un .not t13, none, 0, 0, 0⟩])
 (.cond t14
 (.seq (.reg false [⟨d15, .call (.f 7) [], none, 1, 0, 0⟩,
  ⟨d4, .mv t15, none, 0, 0, 0⟩])
 .ret)
 .skip))
 (.seq (.reg false [⟨d17, .mv t1, none, 0, 0, 0⟩,
  ⟨d18, .call (.f 16) [(.c (.pointer none)), t17], none, 3, 0, 0⟩,
  ⟨d16, .mv t18, none, 0, 0, 0⟩,
  ⟨d19, .extract 0 t16, none, 0, 0, 0⟩,
  ⟨d20, .extract 1 t16, none, 0, 0, 0⟩,
  ⟨d5, .alloc [(.int .i64 (0)), (.int .i64 (0)), (.slice none 0 0)], none, 2, 0, 0⟩,
  ⟨none, .store 3 t5 t19, none, 3, 0, 0⟩,
  ⟨d6, .mv t20, none, 0, 0, 0⟩])
 (.seq (.reg false [⟨d22, .build [(.map none), (.slice none 0 0), (.int .i64 (0)), (.bool false), (.int .i64 (0)), (.int .i64 (0))] [], none, 0, 0, 0⟩,
  ⟨d23, .box t22, none, 3, 0, 0⟩,
  ⟨d24, .mv t1, none, 0, 0, 0⟩,
  ⟨d25, .call (.f 16) [t23, t24], none, 3, 0, 0⟩,
  ⟨d21, .mv t25, none, 0, 0, 0⟩,
  ⟨d26, .extract 0 t21, none, 0, 0, 0⟩,
  ⟨d27, .extract 1 t21, none, 0, 0, 0⟩,
  ⟨d7, .alloc [(.int .i64 (0)), (.int .i64 (0)), (.slice none 0 0)], none, 2, 0, 0⟩,
  ⟨none, .store 3 t7 t26, none, 3, 0, 0⟩,
  ⟨d8, .mv t27, none, 0, 0, 0⟩])
 (.seq (.reg false [⟨d29, .call (.f 17) [], none, 3, 0, 0⟩,
  ⟨d30, .mv t1, none, 0, 0, 0⟩,
  ⟨d31, .call (.f 16) [t29, t30], none, 3, 0, 0⟩,
  ⟨d28, .mv t31, none, 0, 0, 0⟩,
  ⟨d32, .extract 0 t28, none, 0, 0, 0⟩,
  ⟨d33, .extract 1 t28, none, 0, 0, 0⟩,
  ⟨d9, .alloc [(.int .i64 (0)), (.int .i64 (0)), (.slice none 0 0)], none, 2, 0, 0⟩,
  ⟨none, .store 3 t9 t32, none, 3, 0, 0⟩,
  ⟨d10, .mv t33, none, 0, 0, 0⟩])
 (.seq (.reg false [⟨d34, .mv t1, none, 0, 0, 0⟩,
  ⟨d35, .bin .geq .scalar t34 (.c (.int .i64 (1))), none, 0, 0, 0⟩,
  ⟨d36, .mv t35, none, 0, 0, 0⟩,
  ⟨d37, .mv t1, (some (p36, true)), 0, 0, 0⟩,
  ⟨d38, .bin .leq .scalar t37 (.c (.int .i64 (8))), (some (p36, true)), 0, 0, 0⟩,
  ⟨d39, .pick t36 t38 (.c (.bool false)), none, 0, 0, 0⟩,
  ⟨d11, .mv t39, none, 0, 0, 0⟩])
 (.seq (.reg false [⟨d40, .mv t6, none, 0, 0, 0⟩,
  ⟨d41, .call (.f 18) [t40], none, 1, 0, 0⟩,
  ⟨d42, .bin .eql .scalar t41 (.c (.int .i64 (9))), none, 0, 0, 0⟩,
  ⟨d43, .mv t42, none, 0, 0, 0⟩,
  ⟨d44, .mv t8, (some (p43, true)), 0, 0, 0⟩,
  ⟨d45, .call (.f 18) [t44], (some (p43, true)), 1, 0, 0⟩,
  ⟨d46, .bin .eql .scalar t45 (.c (.int .i64 (9))), (some (p43, true)), 0, 0, 0⟩,
  ⟨d47, .pick t43 t46 (.c (.bool false)), none, 0, 0, 0⟩,
  ⟨d48, .mv t47, none, 0, 0, 0⟩,
  ⟨d49, .load true 3 t2, (some (p48, true)), 1, 0, 0⟩,
  ⟨d50, .mv t1, (some (p48, true)), 0, 0, 0⟩,
  ⟨d51, .call (.f 19) [(.c (.pointer none)), t49, t50], (some (p48, true)), 3, 0, 0⟩,
  ⟨d52, .call (.f 18) [t51], (some (p48, true)), 1, 0, 0⟩,
  ⟨d53, .bin .eql .scalar t52 (.c (.int .i64 (9))), (some (p48, true)), 0, 0, 0⟩,
  ⟨d54, .pick t48 t53 (.c (.bool false)), none, 0, 0, 0⟩,
  ⟨d55, .mv t54, none, 0, 0, 0⟩,
  ⟨d56, .mv t10, (some (p55, true)), 0, 0, 0⟩,
  ⟨d57, .call (.f 18) [t56], (some (p55, true)), 1, 0, 0⟩,
  ⟨d58, .bin .eql .scalar t57 (.c (.int .i64 (0))), (some (p55, true)), 0, 0, 0⟩,
  ⟨d59, .mv t11, (some (p55, true)), 0, 0, 0⟩,
  ⟨d60, .bin .eql .bools t58 t59, (some (p55, true)), 0, 0, 0⟩,
  ⟨d61, .pick t55 t60 (.c (.bool false)), none, 0, 0, 0⟩,
  ⟨d62, .mv t61, none, 0, 0, 0⟩,
  ⟨d63, .mv t11, (some (p62, true)), 0, 0, 0⟩,
  ⟨d64, .mv t63, (some (p62, true)), 0, 0, 0⟩,
  ⟨d65, .mv t10, (some (p64, false)), 0, 0, 0⟩,
  ⟨d66, .call (.f 18) [t65], (some (p64, false)), 1, 0, 0⟩,
  ⟨d67, .bin .eql .scalar t66 (.c (.int .i64 (1))), (some (p64, false)), 0, 0, 0⟩,
  ⟨d68, .pick t64 (.c (.bool true)) t67, (some (p62, true)), 0, 0, 0⟩,
  ⟨d69, .pick t62 t68 (.c (.bool false)), none, 0, 0, 0⟩,
  ⟨d70, .mv t69, none, 0, 0, 0⟩,
  ⟨d71, .call (.f 7) [], (some (p70, true)), 1, 0, 0⟩,
  ⟨d72, .pick t70 t71 (.c (.bool false)), none, 0, 0, 0⟩,
  ⟨d4, .mv t72, none, 0, 0, 0⟩])
 .ret)))))))⟩
theorem ok4 : GoodFn Tryz.prog kt (4, ir4) := ⟨Tryz.f4, fun _ _ => false, Tryz.func4, by kernel_rfl⟩
end Go.Proofs.YtjlaccjneaomgaaGreatDoor
