/- MarkNames: what it comes to, on every number and every text. -/
import Derived.Test.YtjlaccjneaomgaaGreatDoorFkY
namespace Go.Proofs.YtjlaccjneaomgaaGreatDoor
open Go Go.Fk Go.Lib
set_option maxRecDepth 100000
set_option linter.unusedSimpArgs false

theorem ver_bool (l : List UInt8) : ltI 0 (verL l).1 = (verL l).2 := by
  rcases ver_cases l with e | ⟨v, h1, h2, _, e⟩
  · rw [e]; rfl
  · rw [e]; exact ltI_t (by show (0 : Int) < v; omega)

abbrev first1 : Fk.D := .agg [.v (.int .i64 0), .v (.int .i64 1), .v (.slice none 0 0)]
def icOps : IC → List IOper
  | .reg _ l => l
  | _ => []

section
variable {k : Nat}
theorem c13 : evF prN (k + 20) (.func (.func 13) [] []) [] .empty = some (first1, .empty) := by kernel_rfl
theorem c14 : evF prN (k + 20) (.func (.func 14) [] []) [] .empty = some (first1, .empty) := by kernel_rfl
theorem c12 : evF prN (k + 20) (.func (.func 12) [] []) [first1, first1] .empty = some (.v (.bool true), .empty) := by kernel_rfl
theorem c7 : evF prN (k + 1) (.func (.func 7) [] []) [] .empty = some (.v (.bool true), .empty) := rfl

def AnsT (y : X) (f' : Fr) : Prop := y = .ret ∧ f'.defers = [] ∧ f'.env.get p4 = .v (.bool true)
def nmTail : IC := (.seq (.seq (.reg false [⟨d26, .mv t5, none, 0, 0, 0⟩,
  ⟨d27, .mv t0, none, 0, 0, 0⟩,
  ⟨d28, .call (.f 10) [t27], none, 1, 0, 0⟩,
  ⟨d29, .bin .neq .scalar t26 t28, none, 0, 0, 0⟩,
  ⟨d30, .mv t29, none, 0, 0, 0⟩,
  ⟨d31, .mv t6, (some (p30, false)), 0, 0, 0⟩,
  ⟨d32, .mv t1, (some (p30, false)), 0, 0, 0⟩,
  ⟨d33, .call (.f 11) [t32], (some (p30, false)), 1, 0, 0⟩,
  ⟨d34, .bin .neq .scalar t31 t33, (some (p30, false)), 0, 0, 0⟩,
  ⟨d35, .pick t30 (.c (.bool true)) t34, none, 0, 0, 0⟩,
  ⟨d36, .mv t35, none, 0, 0, 0⟩,
  ⟨d37, .mv t7, (some (p36, false)), 0, 0, 0⟩,
  ⟨d38, .mv t6, (some (p36, false)), 0, 0, 0⟩,
  ⟨d39, .bin .gtr .scalar t38 (.c (.int .i64 (0))), (some (p36, false)), 0, 0, 0⟩,
  ⟨d40, .bin .neq .bools t37 t39, (some (p36, false)), 0, 0, 0⟩,
  ⟨d41, .pick t36 (.c (.bool true)) t40, none, 0, 0, 0⟩,
  ⟨d42, .mv t41, none, 0, 0, 0⟩,
  ⟨d43, .mv t9, (some (p42, false)), 0, 0, 0⟩,
  ⟨d44, .mv t5, (some (p42, false)), 0, 0, 0⟩,
  ⟨d45, .bin .neq .scalar t44 (.c (.string (bsN []))), (some (p42, false)), 0, 0, 0⟩,
  ⟨d46, .bin .neq .bools t43 t45, (some (p42, false)), 0, 0, 0⟩,
  ⟨d47, .pick t42 (.c (.bool true)) t46, none, 0, 0, 0⟩,
  ⟨d48, .mv t47, none, 0, 0, 0⟩,
  ⟨d49, .mv t9, (some (p48, false)), 0, 0, 0⟩,
  ⟨d50, .mv t49, (some (p48, false)), 0, 0, 0⟩,
  ⟨d51, .mv t8, (some (p50, true)), 0, 0, 0⟩,
  ⟨d52, .mv t0, (some (p50, true)), 0, 0, 0⟩,
  ⟨d53, .bin .neq .scalar t51 t52, (some (p50, true)), 0, 0, 0⟩,
  ⟨d54, .pick t50 t53 (.c (.bool false)), (some (p48, false)), 0, 0, 0⟩,
  ⟨d55, .pick t48 (.c (.bool true)) t54, none, 0, 0, 0⟩])
 (.cond t55
 (.seq (.reg false [⟨d4, .mv (.c (.bool false)), none, 0, 0, 0⟩])
 .ret)
 .skip))
 (.seq (.reg false [⟨d56, .call (.f 13) [], none, 1, 0, 0⟩,
  ⟨d57, .call (.f 14) [], none, 1, 0, 0⟩,
  ⟨d58, .call (.f 12) [t56, t57], none, 1, 0, 0⟩,
  ⟨d59, .mv t58, none, 0, 0, 0⟩,
  ⟨d60, .call (.f 7) [], (some (p59, true)), 1, 0, 0⟩,
  ⟨d61, .pick t59 t60 (.c (.bool false)), none, 0, 0, 0⟩,
  ⟨d4, .mv t61, none, 0, 0, 0⟩])
 .ret))
def nmIf : IC := match nmTail with
  | .seq (.seq a _) _ => a
  | _ => .skip
def nmIf1 : IC := match nmIf with
  | .reg _ l => .reg false (l.take 11)
  | _ => .skip
def nmIf2 : IC := match nmIf with
  | .reg _ l => .reg false (l.drop 11)
  | _ => .skip
theorem reg_parts {call : Fk.D → List Fk.D → St → Option (Fk.D × St)} {pure : Fk.D → Bool} (l m : List IOper) (f : Fr) {Q : X → Fr → Prop} (h : Ex call pure (.seq (.reg false l) (.reg false m)) f Q) : Ex call pure (.reg false (l ++ m)) f Q := by
  obtain ⟨x, f', h1, h2⟩ := h
  refine ⟨x, f', ?_, h2⟩
  have key : ∀ (l : List IOper) (f : Fr), runOps call pure (l ++ m) f = (runOps call pure l f).bind fun f => runOps call pure m f := by
    intro l
    induction l with
    | nil => intro f; rfl
    | cons o r ih =>
      intro f
      simp only [List.cons_append, runOps]
      cases step1 call pure o f with
      | none => rfl
      | some f' => exact ih f'
  simp only [evC] at h1 ⊢
  rw [key]
  cases hr : runOps call pure l f with
  | none => rw [hr] at h1; cases h1
  | some f1 => rw [hr] at h1; exact h1
theorem names_tail (v : Int) (b : ByteArray) (r n : Int) (q t z : Bool) (x11 : evF prN (k + 50) (.func (.func 11) [] []) [.v (.string b)] .empty = some (.v (.int .i64 r), .empty)) (vb : ltI 0 r = q) (e2 : ((bsL (nmL v)).data == (bsN []).data) = z) (ht : t = !z) (hn : t = true → n = v)
    (e : Env) (g0 : e.get .h = .v (.int .i64 v)) (g1 : e.get p1 = .v (.string b)) (g5 : e.get p5 = .v (.string (bsL (nmL v)))) (g6 : e.get p6 = .v (.int .i64 r)) (g7 : e.get p7 = .v (.bool q)) (g8 : e.get p8 = .v (.int .i64 n)) (g9 : e.get p9 = .v (.bool t)) :
    Ex (evF prN (k + 50)) prN.pure nmTail ⟨e, [], .empty⟩ AnsT := by
  simp only [p1, p5, p6, p7, p8, p9] at g1 g5 g6 g7 g8 g9
  have pu7 := pu 7 (by kernel_rfl)
  have pu10 := pu 10 (by kernel_rfl)
  have pu11 := pu 11 (by kernel_rfl)
  have pu12 := pu 12 (by kernel_rfl)
  have pu13 := pu 13 (by kernel_rfl)
  have pu14 := pu 14 (by kernel_rfl)
  have x7 := c7 (k := k + 49)
  have x10 := run_rname (k := k + 49) v
  have x13 := c13 (k := k + 30)
  have x14 := c14 (k := k + 30)
  have x12 := c12 (k := k + 30)
  unfold nmTail
  refine Ex.seq ?_
  refine Ex.seq ?_
  refine reg_parts (icOps nmIf1) (icOps nmIf2) _ ?_
  refine Ex.seq ?_
  unfold icOps nmIf1 nmIf nmTail
  simp only [List.take]
  apply Ex.of
  · simp [evC, runOps, step1, wantedD, evQ, evM, setD, Opd.ev, Env.get_set, binQ, binV, unV, i64, loadD, zval, asI, D.int?, elems, bytesOf, lenQ, indexQ, convStrQ, D.isStr, byteD, D.cells, D.single, D.cl, D.clL, norm, normC, setAll, Option.map_some, List.map, List.all, List.length, List.replicate, deferD, D.szOk, put, eqD, veq, nilK, List.getElem?_cons_zero, List.getElem?_cons_succ, p0, p1, p2, p3, p4, p5, p6, p7, p8, p9, p10, p11, p12, p13, p14, p15, p16, p17, p18, p19, p20, p21, p22, p23, p24, p25, p26, p27, p28, p29, p30, p31, p32, p33, p34, p35, p36, d0, d1, d2, d3, d4, d5, d6, d7, d8, d9, d10, d11, d12, d13, d14, d15, d16, d17, d18, d19, d20, d21, d22, d23, d24, d25, d26, d27, d28, d29, d30, d31, d32, d33, d34, d35, d36, t0, t1, t2, t3, t4, t5, t6, t7, t8, t9, t10, t11, t12, t13, t14, t15, t16, t17, t18, t19, t20, t21, t22, t23, t24, t25, t26, t27, t28, t29, t30, t31, t32, t33, t34, t35, t36, g0, g1, g5, g6, x10, pu10, x11, pu11]; exact ⟨rfl, rfl⟩
  refine Ex.gen (fun e => e.get .h = .v (.int .i64 v) ∧ e.get p5 = .v (.string (bsL (nmL v))) ∧ e.get p6 = .v (.int .i64 r) ∧ e.get p7 = .v (.bool q) ∧ e.get p8 = .v (.int .i64 n) ∧ e.get p9 = .v (.bool t) ∧ e.get p36 = .v (.bool false)) (by simp [Env.get_set, g0, g5, g6, g7, g8, g9, p0, p1, p2, p3, p4, p5, p6, p7, p8, p9, p10, p11, p12, p13, p14, p15, p16, p17, p18, p19, p20, p21, p22, p23, p24, p25, p26, p27, p28, p29, p30, p31, p32, p33, p34, p35, p36]) ?_
  clear g0 g1 g5 g6 g7 g8 g9
  rintro e ⟨g0, g5, g6, g7, g8, g9, g36⟩
  simp only [p5, p6, p7, p8, p9, p36] at g5 g6 g7 g8 g9 g36
  unfold nmIf2 nmIf nmTail
  simp only [List.drop]
  have fin : ∀ e : Env, e.get p55 = .v (.bool false) → Ex (evF prN (k + 50)) prN.pure (.cond t55 (.seq (.reg false [⟨d4, .mv (.c (.bool false)), none, 0, 0, 0⟩]) .ret) .skip) ⟨e, [], .empty⟩ fun x f' => match x with
      | .nrm => Ex (evF prN (k + 50)) prN.pure (.seq (.reg false [⟨d56, .call (.f 13) [], none, 1, 0, 0⟩,
  ⟨d57, .call (.f 14) [], none, 1, 0, 0⟩,
  ⟨d58, .call (.f 12) [t56, t57], none, 1, 0, 0⟩,
  ⟨d59, .mv t58, none, 0, 0, 0⟩,
  ⟨d60, .call (.f 7) [], (some (p59, true)), 1, 0, 0⟩,
  ⟨d61, .pick t59 t60 (.c (.bool false)), none, 0, 0, 0⟩,
  ⟨d4, .mv t61, none, 0, 0, 0⟩])
 .ret) f' AnsT
      | x => AnsT x f' := fun e h55 => by
    refine Ex.cond (t := false) (by simpa [Opd.ev, t55] using h55) ?_
    rw [if_neg (by decide)]
    refine Ex.skip ?_
    refine Ex.seq ?_
    apply Ex.of
    · simp [evC, runOps, step1, wantedD, evQ, evM, setD, Opd.ev, Env.get_set, binQ, binV, unV, i64, loadD, zval, asI, D.int?, elems, bytesOf, lenQ, indexQ, convStrQ, D.isStr, byteD, D.cells, D.single, D.cl, D.clL, norm, normC, setAll, Option.map_some, List.map, List.all, List.length, List.replicate, deferD, D.szOk, put, eqD, veq, nilK, List.getElem?_cons_zero, List.getElem?_cons_succ, p0, p1, p2, p3, p4, p5, p6, p7, p8, p9, p10, p11, p12, p13, p14, p15, p16, p17, p18, p19, p20, p21, p22, p23, p24, p25, p26, p27, p28, p29, p30, p31, p32, p33, p34, p35, p36, p37, p38, p39, p40, p41, p42, p43, p44, p45, p46, p47, p48, p49, p50, p51, p52, p53, p54, p55, p56, p57, p58, p59, p60, p61, d0, d1, d2, d3, d4, d5, d6, d7, d8, d9, d10, d11, d12, d13, d14, d15, d16, d17, d18, d19, d20, d21, d22, d23, d24, d25, d26, d27, d28, d29, d30, d31, d32, d33, d34, d35, d36, d37, d38, d39, d40, d41, d42, d43, d44, d45, d46, d47, d48, d49, d50, d51, d52, d53, d54, d55, d56, d57, d58, d59, d60, d61, t0, t1, t2, t3, t4, t5, t6, t7, t8, t9, t10, t11, t12, t13, t14, t15, t16, t17, t18, t19, t20, t21, t22, t23, t24, t25, t26, t27, t28, t29, t30, t31, t32, t33, t34, t35, t36, t37, t38, t39, t40, t41, t42, t43, t44, t45, t46, t47, t48, t49, t50, t51, t52, t53, t54, t55, t56, t57, t58, t59, t60, t61, x12, x13, x14, x7, pu7, pu12, pu13, pu14]; exact ⟨rfl, rfl⟩
    refine Ex.ret ⟨rfl, rfl, ?_⟩
    simp [Env.get_set, p0, p1, p2, p3, p4, p5, p6, p7, p8, p9, p10, p11, p12, p13, p14, p15, p16, p17, p18, p19, p20, p21, p22, p23, p24, p25, p26, p27, p28, p29, p30, p31, p32, p33, p34, p35, p36, p37, p38, p39, p40, p41, p42, p43, p44, p45, p46, p47, p48, p49, p50, p51, p52, p53, p54, p55, p56, p57, p58, p59, p60, p61]
  cases z with
  | false =>
    obtain rfl : t = true := ht
    obtain rfl := hn rfl
    apply Ex.of
    · simp [evC, runOps, step1, wantedD, evQ, evM, setD, Opd.ev, Env.get_set, binQ, binV, unV, i64, loadD, zval, asI, D.int?, elems, bytesOf, lenQ, indexQ, convStrQ, D.isStr, byteD, D.cells, D.single, D.cl, D.clL, norm, normC, setAll, Option.map_some, List.map, List.all, List.length, List.replicate, deferD, D.szOk, put, eqD, veq, nilK, List.getElem?_cons_zero, List.getElem?_cons_succ, p0, p1, p2, p3, p4, p5, p6, p7, p8, p9, p10, p11, p12, p13, p14, p15, p16, p17, p18, p19, p20, p21, p22, p23, p24, p25, p26, p27, p28, p29, p30, p31, p32, p33, p34, p35, p36, p37, p38, p39, p40, p41, p42, p43, p44, p45, p46, p47, p48, p49, p50, p51, p52, p53, p54, p55, d0, d1, d2, d3, d4, d5, d6, d7, d8, d9, d10, d11, d12, d13, d14, d15, d16, d17, d18, d19, d20, d21, d22, d23, d24, d25, d26, d27, d28, d29, d30, d31, d32, d33, d34, d35, d36, d37, d38, d39, d40, d41, d42, d43, d44, d45, d46, d47, d48, d49, d50, d51, d52, d53, d54, d55, t0, t1, t2, t3, t4, t5, t6, t7, t8, t9, t10, t11, t12, t13, t14, t15, t16, t17, t18, t19, t20, t21, t22, t23, t24, t25, t26, t27, t28, t29, t30, t31, t32, t33, t34, t35, t36, t37, t38, t39, t40, t41, t42, t43, t44, t45, t46, t47, t48, t49, t50, t51, t52, t53, t54, t55, g0, g5, g6, g7, g8, g9, g36, vb, e2]; exact ⟨rfl, rfl⟩
    refine fin _ ?_
    simp [Env.get_set, p0, p1, p2, p3, p4, p5, p6, p7, p8, p9, p10, p11, p12, p13, p14, p15, p16, p17, p18, p19, p20, p21, p22, p23, p24, p25, p26, p27, p28, p29, p30, p31, p32, p33, p34, p35, p36, p37, p38, p39, p40, p41, p42, p43, p44, p45, p46, p47, p48, p49, p50, p51, p52, p53, p54, p55]
  | true =>
    obtain rfl : t = false := ht
    apply Ex.of
    · simp [evC, runOps, step1, wantedD, evQ, evM, setD, Opd.ev, Env.get_set, binQ, binV, unV, i64, loadD, zval, asI, D.int?, elems, bytesOf, lenQ, indexQ, convStrQ, D.isStr, byteD, D.cells, D.single, D.cl, D.clL, norm, normC, setAll, Option.map_some, List.map, List.all, List.length, List.replicate, deferD, D.szOk, put, eqD, veq, nilK, List.getElem?_cons_zero, List.getElem?_cons_succ, p0, p1, p2, p3, p4, p5, p6, p7, p8, p9, p10, p11, p12, p13, p14, p15, p16, p17, p18, p19, p20, p21, p22, p23, p24, p25, p26, p27, p28, p29, p30, p31, p32, p33, p34, p35, p36, p37, p38, p39, p40, p41, p42, p43, p44, p45, p46, p47, p48, p49, p50, p51, p52, p53, p54, p55, d0, d1, d2, d3, d4, d5, d6, d7, d8, d9, d10, d11, d12, d13, d14, d15, d16, d17, d18, d19, d20, d21, d22, d23, d24, d25, d26, d27, d28, d29, d30, d31, d32, d33, d34, d35, d36, d37, d38, d39, d40, d41, d42, d43, d44, d45, d46, d47, d48, d49, d50, d51, d52, d53, d54, d55, t0, t1, t2, t3, t4, t5, t6, t7, t8, t9, t10, t11, t12, t13, t14, t15, t16, t17, t18, t19, t20, t21, t22, t23, t24, t25, t26, t27, t28, t29, t30, t31, t32, t33, t34, t35, t36, t37, t38, t39, t40, t41, t42, t43, t44, t45, t46, t47, t48, t49, t50, t51, t52, t53, t54, t55, g0, g5, g6, g7, g8, g9, g36, vb, e2]; exact ⟨rfl, rfl⟩
    refine fin _ ?_
    simp [Env.get_set, p0, p1, p2, p3, p4, p5, p6, p7, p8, p9, p10, p11, p12, p13, p14, p15, p16, p17, p18, p19, p20, p21, p22, p23, p24, p25, p26, p27, p28, p29, p30, p31, p32, p33, p34, p35, p36, p37, p38, p39, p40, p41, p42, p43, p44, p45, p46, p47, p48, p49, p50, p51, p52, p53, p54, p55]

theorem names_body (v : Int) (b : ByteArray) (e : Env) (g0 : e.get p0 = .v (.int .i64 v)) (g1 : e.get p1 = .v (.string b)) : Ex (evF prN (k + 50)) prN.pure ir3.body ⟨e, [], .empty⟩ AnsT := by
  simp only [p0, p1] at g0 g1
  unfold ir3
  have pu7 := pu 7 (by kernel_rfl)
  have pu8 := pu 8 (by kernel_rfl)
  have pu9 := pu 9 (by kernel_rfl)
  have pu10 := pu 10 (by kernel_rfl)
  have pu11 := pu 11 (by kernel_rfl)
  have pu12 := pu 12 (by kernel_rfl)
  have pu13 := pu 13 (by kernel_rfl)
  have pu14 := pu 14 (by kernel_rfl)
  have x7 := c7 (k := k + 49)
  refine Ex.seq ?_
  apply Ex.of
  · simp [evC, runOps, step1, wantedD, evQ, evM, setD, Opd.ev, Env.get_set, binQ, binV, unV, i64, loadD, zval, asI, D.int?, elems, bytesOf, lenQ, indexQ, convStrQ, D.isStr, byteD, D.cells, D.single, D.cl, D.clL, norm, normC, setAll, Option.map_some, List.map, List.all, List.length, List.replicate, deferD, D.szOk, put, eqD, veq, nilK, List.getElem?_cons_zero, List.getElem?_cons_succ, p0, p1, p2, p3, p4, p5, p6, p7, p8, p9, p10, p11, p12, p13, p14, p15, p16, p17, p18, p19, p20, p21, p22, p23, p24, p25, d0, d1, d2, d3, d4, d5, d6, d7, d8, d9, d10, d11, d12, d13, d14, d15, d16, d17, d18, d19, d20, d21, d22, d23, d24, d25, t0, t1, t2, t3, t4, t5, t6, t7, t8, t9, t10, t11, t12, t13, t14, t15, t16, t17, t18, t19, t20, t21, t22, t23, t24, t25, g0, g1]; exact ⟨rfl, rfl⟩
  refine Ex.seq ?_
  refine Ex.seq ?_
  by_cases hb : (100 : Int) < b.size
  · have l1 := ltI_t hb
    apply Ex.of
    · simp [evC, runOps, step1, wantedD, evQ, evM, setD, Opd.ev, Env.get_set, binQ, binV, unV, i64, loadD, zval, asI, D.int?, elems, bytesOf, lenQ, indexQ, convStrQ, D.isStr, byteD, D.cells, D.single, D.cl, D.clL, norm, normC, setAll, Option.map_some, List.map, List.all, List.length, List.replicate, deferD, D.szOk, put, eqD, veq, nilK, List.getElem?_cons_zero, List.getElem?_cons_succ, p0, p1, p2, p3, p4, p5, p6, p7, p8, p9, p10, p11, p12, p13, p14, p15, p16, p17, p18, p19, p20, p21, p22, p23, p24, p25, d0, d1, d2, d3, d4, d5, d6, d7, d8, d9, d10, d11, d12, d13, d14, d15, d16, d17, d18, d19, d20, d21, d22, d23, d24, d25, t0, t1, t2, t3, t4, t5, t6, t7, t8, t9, t10, t11, t12, t13, t14, t15, t16, t17, t18, t19, t20, t21, t22, t23, t24, t25, g0, g1, l1]; exact ⟨rfl, rfl⟩
    refine Ex.cond (t := true) (by simp [Opd.ev, Env.get_set, t12, p0, p1, p2, p3, p4, p5, p6, p7, p8, p9, p10, p11, p12, p13, p14, p15, p16, p17, p18, p19, p20, p21, p22, p23, p24, p25]) ?_
    rw [if_pos rfl]
    refine Ex.seq ?_
    apply Ex.of
    · simp [evC, runOps, step1, wantedD, evQ, evM, setD, Opd.ev, Env.get_set, binQ, binV, unV, i64, loadD, zval, asI, D.int?, elems, bytesOf, lenQ, indexQ, convStrQ, D.isStr, byteD, D.cells, D.single, D.cl, D.clL, norm, normC, setAll, Option.map_some, List.map, List.all, List.length, List.replicate, deferD, D.szOk, put, eqD, veq, nilK, List.getElem?_cons_zero, List.getElem?_cons_succ, p0, p1, p2, p3, p4, p5, p6, p7, p8, p9, p10, p11, p12, p13, p14, p15, p16, p17, p18, p19, p20, p21, p22, p23, p24, p25, d0, d1, d2, d3, d4, d5, d6, d7, d8, d9, d10, d11, d12, d13, d14, d15, d16, d17, d18, d19, d20, d21, d22, d23, d24, d25, t0, t1, t2, t3, t4, t5, t6, t7, t8, t9, t10, t11, t12, t13, t14, t15, t16, t17, t18, t19, t20, t21, t22, t23, t24, t25, x7, pu7]; exact ⟨rfl, rfl⟩
    refine Ex.ret ⟨rfl, rfl, ?_⟩
    simp [Env.get_set, p0, p1, p2, p3, p4, p5, p6, p7, p8, p9, p10, p11, p12, p13, p14, p15, p16, p17, p18, p19, p20, p21, p22, p23, p24, p25]
  have l1 := ltI_f hb
  apply Ex.of
  · simp [evC, runOps, step1, wantedD, evQ, evM, setD, Opd.ev, Env.get_set, binQ, binV, unV, i64, loadD, zval, asI, D.int?, elems, bytesOf, lenQ, indexQ, convStrQ, D.isStr, byteD, D.cells, D.single, D.cl, D.clL, norm, normC, setAll, Option.map_some, List.map, List.all, List.length, List.replicate, deferD, D.szOk, put, eqD, veq, nilK, List.getElem?_cons_zero, List.getElem?_cons_succ, p0, p1, p2, p3, p4, p5, p6, p7, p8, p9, p10, p11, p12, p13, p14, p15, p16, p17, p18, p19, p20, p21, p22, p23, p24, p25, d0, d1, d2, d3, d4, d5, d6, d7, d8, d9, d10, d11, d12, d13, d14, d15, d16, d17, d18, d19, d20, d21, d22, d23, d24, d25, t0, t1, t2, t3, t4, t5, t6, t7, t8, t9, t10, t11, t12, t13, t14, t15, t16, t17, t18, t19, t20, t21, t22, t23, t24, t25, g0, g1, l1]; exact ⟨rfl, rfl⟩
  refine Ex.cond (t := false) (by simp [Opd.ev, Env.get_set, t12, p0, p1, p2, p3, p4, p5, p6, p7, p8, p9, p10, p11, p12, p13, p14, p15, p16, p17, p18, p19, p20, p21, p22, p23, p24, p25]) ?_
  rw [if_neg (by decide)]
  refine Ex.skip ?_
  have x8 := run_name (k := k + 18) v
  have x9 := run_vers (k := k + 9) b (by omega)
  have x10 := run_rname (k := k + 49) v
  have x11 := run_rvers (k := k + 47) b
  have x13 := c13 (k := k + 30)
  have x14 := c14 (k := k + 30)
  have x12 := c12 (k := k + 30)
  have vb := ver_bool b.data.toList
  generalize verL b.data.toList = r at x9 x11 vb
  have x9' : evF prN (k + 50) (.func (.func 9) [] []) [.v (.string (bsL (nmL v)))] .empty = some (.tup [.v (.int .i64 (verL (nmL v)).1), .v (.bool (verL (nmL v)).2)], .empty) := run_vers (k := k + 9) (bsL (nmL v)) (by
    rw [bsL_size]
    unfold nmL
    split
    · simp [digs_length]
    · simp)
  refine Ex.seq ?_
  apply Ex.of
  · simp [evC, runOps, step1, wantedD, evQ, evM, setD, Opd.ev, Env.get_set, binQ, binV, unV, i64, loadD, zval, asI, D.int?, elems, bytesOf, lenQ, indexQ, convStrQ, D.isStr, byteD, D.cells, D.single, D.cl, D.clL, norm, normC, setAll, Option.map_some, List.map, List.all, List.length, List.replicate, deferD, D.szOk, put, eqD, veq, nilK, List.getElem?_cons_zero, List.getElem?_cons_succ, p0, p1, p2, p3, p4, p5, p6, p7, p8, p9, p10, p11, p12, p13, p14, p15, p16, p17, p18, p19, p20, p21, p22, p23, p24, p25, d0, d1, d2, d3, d4, d5, d6, d7, d8, d9, d10, d11, d12, d13, d14, d15, d16, d17, d18, d19, d20, d21, d22, d23, d24, d25, t0, t1, t2, t3, t4, t5, t6, t7, t8, t9, t10, t11, t12, t13, t14, t15, t16, t17, t18, t19, t20, t21, t22, t23, t24, t25, g0, g1, x8, pu8]; exact ⟨rfl, rfl⟩
  refine Ex.seq ?_
  apply Ex.of
  · simp [evC, runOps, step1, wantedD, evQ, evM, setD, Opd.ev, Env.get_set, binQ, binV, unV, i64, loadD, zval, asI, D.int?, elems, bytesOf, lenQ, indexQ, convStrQ, D.isStr, byteD, D.cells, D.single, D.cl, D.clL, norm, normC, setAll, Option.map_some, List.map, List.all, List.length, List.replicate, deferD, D.szOk, put, eqD, veq, nilK, List.getElem?_cons_zero, List.getElem?_cons_succ, p0, p1, p2, p3, p4, p5, p6, p7, p8, p9, p10, p11, p12, p13, p14, p15, p16, p17, p18, p19, p20, p21, p22, p23, p24, p25, d0, d1, d2, d3, d4, d5, d6, d7, d8, d9, d10, d11, d12, d13, d14, d15, d16, d17, d18, d19, d20, d21, d22, d23, d24, d25, t0, t1, t2, t3, t4, t5, t6, t7, t8, t9, t10, t11, t12, t13, t14, t15, t16, t17, t18, t19, t20, t21, t22, t23, t24, t25, g0, g1, x9, pu9]; exact ⟨rfl, rfl⟩
  refine Ex.seq ?_
  have key : (∃ z : Bool, verL (nmL v) = (v, true) ∧ z = false ∧ ((bsL (nmL v)).data == (bsN []).data) = z) ∨ (∃ z : Bool, verL (nmL v) = (0, false) ∧ z = true ∧ ((bsL (nmL v)).data == (bsN []).data) = z) := by
    by_cases hr : 1 ≤ v ∧ v ≤ 1073741824
    · refine .inl ⟨false, ver_of hr.1 hr.2, rfl, ?_⟩
      rw [beq_nil]
      unfold nmL
      rw [if_pos hr]
      rfl
    · have e1 : nmL v = [] := by unfold nmL; rw [if_neg hr]
      rw [e1]
      exact .inr ⟨true, rfl, rfl, rfl⟩
  rcases key with ⟨z, e1, rfl, e2⟩ | ⟨z, e1, rfl, e2⟩
  · rw [e1] at x9'
    apply Ex.of
    · simp [evC, runOps, step1, wantedD, evQ, evM, setD, Opd.ev, Env.get_set, binQ, binV, unV, i64, loadD, zval, asI, D.int?, elems, bytesOf, lenQ, indexQ, convStrQ, D.isStr, byteD, D.cells, D.single, D.cl, D.clL, norm, normC, setAll, Option.map_some, List.map, List.all, List.length, List.replicate, deferD, D.szOk, put, eqD, veq, nilK, List.getElem?_cons_zero, List.getElem?_cons_succ, p0, p1, p2, p3, p4, p5, p6, p7, p8, p9, p10, p11, p12, p13, p14, p15, p16, p17, p18, p19, p20, p21, p22, p23, p24, p25, d0, d1, d2, d3, d4, d5, d6, d7, d8, d9, d10, d11, d12, d13, d14, d15, d16, d17, d18, d19, d20, d21, d22, d23, d24, d25, t0, t1, t2, t3, t4, t5, t6, t7, t8, t9, t10, t11, t12, t13, t14, t15, t16, t17, t18, t19, t20, t21, t22, t23, t24, t25, g0, g1, x9', pu9]; exact ⟨rfl, rfl⟩
    refine names_tail v b r.1 v r.2 true false x11 vb e2 rfl (fun _ => rfl) _ ?_ ?_ ?_ ?_ ?_ ?_ ?_ <;> simp [Env.get_set, p0, p1, p2, p3, p4, p5, p6, p7, p8, p9, p10, p11, p12, p13, p14, p15, p16, p17, p18, p19, p20, p21, p22, p23, p24, p25, g0, g1]
  · rw [e1] at x9'
    apply Ex.of
    · simp [evC, runOps, step1, wantedD, evQ, evM, setD, Opd.ev, Env.get_set, binQ, binV, unV, i64, loadD, zval, asI, D.int?, elems, bytesOf, lenQ, indexQ, convStrQ, D.isStr, byteD, D.cells, D.single, D.cl, D.clL, norm, normC, setAll, Option.map_some, List.map, List.all, List.length, List.replicate, deferD, D.szOk, put, eqD, veq, nilK, List.getElem?_cons_zero, List.getElem?_cons_succ, p0, p1, p2, p3, p4, p5, p6, p7, p8, p9, p10, p11, p12, p13, p14, p15, p16, p17, p18, p19, p20, p21, p22, p23, p24, p25, d0, d1, d2, d3, d4, d5, d6, d7, d8, d9, d10, d11, d12, d13, d14, d15, d16, d17, d18, d19, d20, d21, d22, d23, d24, d25, t0, t1, t2, t3, t4, t5, t6, t7, t8, t9, t10, t11, t12, t13, t14, t15, t16, t17, t18, t19, t20, t21, t22, t23, t24, t25, g0, g1, x9', pu9]; exact ⟨rfl, rfl⟩
    refine names_tail v b r.1 0 r.2 false true x11 vb e2 rfl (fun h => by cases h) _ ?_ ?_ ?_ ?_ ?_ ?_ ?_ <;> simp [Env.get_set, p0, p1, p2, p3, p4, p5, p6, p7, p8, p9, p10, p11, p12, p13, p14, p15, p16, p17, p18, p19, p20, p21, p22, p23, p24, p25, g0, g1]
theorem run_names (v : Int) (b : ByteArray) : evF prN (k + 51) (.func (.func 3) [] []) [.v (.int .i64 v), .v (.string b)] .empty = some (.v (.bool true), .empty) := by
  refine ev0 (fn := ir3) (args := [.v (.int .i64 v), .v (.string b)]) (d := .v (.bool true)) (by kernel_rfl) (by kernel_rfl) (by kernel_rfl) rfl rfl ((names_body v b _ rfl rfl).mono ?_)
  rintro y f' ⟨h1, h2, h3⟩
  refine ⟨h1, h2, ?_, rfl⟩
  rw [show ir3.results = [.t p4] from rfl]; simp only [resAll, resD, h3]
end
end Go.Proofs.YtjlaccjneaomgaaGreatDoor
