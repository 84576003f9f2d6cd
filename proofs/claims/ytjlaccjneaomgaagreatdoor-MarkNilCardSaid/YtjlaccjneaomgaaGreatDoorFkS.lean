/- Small of a manifest: it comes to an end, and tells one or the other. -/
import Derived.Test.YtjlaccjneaomgaaGreatDoorFkTz
import Derived.Test.YtjlaccjneaomgaaGreatDoorKE
namespace Go.Proofs.YtjlaccjneaomgaaGreatDoor
open Go Go.Fk
set_option maxRecDepth 10000
set_option linter.unusedSimpArgs false

def IsCol (x : Fk.D) : Prop := ∃ s a b, x = .agg [.v (.string s), a, b] ∧ a.single = true ∧ b.single = true
def IsTab (x : Fk.D) : Prop := ∃ s c g, x = .agg [.v (.string s), c, g] ∧ IsSl IsCol c ∧ IsSl (fun _ => True) g

def smFin : IC := (.seq (.reg false [⟨d53, .faddr 2 t1, none, 0, 0, 0⟩,
  ⟨d54, .load false 1 t53, none, 1, 0, 0⟩,
  ⟨d55, .len 1 t54, none, 1, 0, 0⟩,
  ⟨d56, .bin .leq .scalar t55 (.c (.int .i64 (10))), none, 0, 0, 0⟩,
  ⟨d2, .mv t56, none, 0, 0, 0⟩])
 .ret)
def smB2 : IC := (.seq (.seq (.reg false [⟨d38, .mv t5, none, 0, 0, 0⟩,
  ⟨d39, .faddr 1 t4, none, 0, 0, 0⟩,
  ⟨d40, .load false 1 t39, none, 1, 0, 0⟩,
  ⟨d41, .len 1 t40, none, 1, 0, 0⟩,
  ⟨d42, .bin .lss .scalar t38 t41, none, 0, 0, 0⟩])
 (.cond t42
 .skip
 (.exit 2)))
 (.seq (.block 3 (.seq (.reg false [⟨d45, .faddr 1 t4, none, 0, 0, 0⟩,
  ⟨d46, .load false 1 t45, none, 1, 0, 0⟩,
  ⟨d47, .mv t5, none, 0, 0, 0⟩,
  ⟨d48, .iaddr none 3 t46 t47, none, 0, 0, 0⟩,
  ⟨d49, .faddr 0 t48, none, 0, 0, 0⟩,
  ⟨d50, .load false 1 t49, none, 1, 0, 0⟩,
  ⟨d51, .len 0 t50, none, 1, 0, 0⟩,
  ⟨d52, .bin .gtr .scalar t51 (.c (.int .i64 (100))), none, 0, 0, 0⟩])
 (.cond t52
 (.seq (.reg false [⟨d2, .mv (.c (.bool false)), none, 0, 0, 0⟩])
 .ret)
 .skip)))
 (.reg false [⟨d43, .mv t5, none, 0, 0, 0⟩,
  ⟨d44, .bin .add .scalar t43 (.c (.int .i64 (1))), none, 0, 0, 0⟩,
  ⟨d5, .mv t44, none, 0, 0, 0⟩])))
def smT : IC := (.seq (.reg false [⟨d22, .faddr 0 t4, none, 0, 0, 0⟩,
  ⟨d23, .load false 1 t22, none, 1, 0, 0⟩,
  ⟨d24, .len 0 t23, none, 1, 0, 0⟩,
  ⟨d25, .bin .gtr .scalar t24 (.c (.int .i64 (100))), none, 0, 0, 0⟩,
  ⟨d26, .mv t25, none, 0, 0, 0⟩,
  ⟨d27, .faddr 1 t4, (some (p26, false)), 0, 0, 0⟩,
  ⟨d28, .load false 1 t27, (some (p26, false)), 1, 0, 0⟩,
  ⟨d29, .len 1 t28, (some (p26, false)), 1, 0, 0⟩,
  ⟨d30, .bin .gtr .scalar t29 (.c (.int .i64 (15))), (some (p26, false)), 0, 0, 0⟩,
  ⟨d31, .pick t26 (.c (.bool true)) t30, none, 0, 0, 0⟩,
  ⟨d32, .mv t31, none, 0, 0, 0⟩,
  ⟨d33, .faddr 2 t4, (some (p32, false)), 0, 0, 0⟩,
  ⟨d34, .load false 1 t33, (some (p32, false)), 1, 0, 0⟩,
  ⟨d35, .len 1 t34, (some (p32, false)), 1, 0, 0⟩,
  ⟨d36, .bin .gtr .scalar t35 (.c (.int .i64 (30))), (some (p32, false)), 0, 0, 0⟩,
  ⟨d37, .pick t32 (.c (.bool true)) t36, none, 0, 0, 0⟩])
 (.cond t37
 (.seq (.reg false [⟨d2, .mv (.c (.bool false)), none, 0, 0, 0⟩])
 .ret)
 .skip))
def smBody : IC := (.seq (.seq (.reg false [⟨d6, .mv t3, none, 0, 0, 0⟩,
  ⟨d7, .faddr 2 t1, none, 0, 0, 0⟩,
  ⟨d8, .load false 1 t7, none, 1, 0, 0⟩,
  ⟨d9, .len 1 t8, none, 1, 0, 0⟩,
  ⟨d10, .bin .lss .scalar t6 t9, none, 0, 0, 0⟩,
  ⟨d11, .mv t10, none, 0, 0, 0⟩,
  ⟨d12, .mv t3, (some (p11, true)), 0, 0, 0⟩,
  ⟨d13, .bin .lss .scalar t12 (.c (.int .i64 (12))), (some (p11, true)), 0, 0, 0⟩,
  ⟨d14, .pick t11 t13 (.c (.bool false)), none, 0, 0, 0⟩])
 (.cond t14
 .skip
 (.exit 0)))
 (.seq (.block 1 (.seq (.reg false [⟨d17, .faddr 2 t1, none, 0, 0, 0⟩,
  ⟨d18, .load false 1 t17, none, 1, 0, 0⟩,
  ⟨d19, .mv t3, none, 0, 0, 0⟩,
  ⟨d20, .iaddr none 3 t18 t19, none, 0, 0, 0⟩,
  ⟨d21, .load true 3 t20, none, 1, 0, 0⟩,
  ⟨d4, .alloc [(.string (bsN [])), (.slice none 0 0), (.slice none 0 0)], none, 2, 0, 0⟩,
  ⟨none, .store 3 t4 t21, none, 3, 0, 0⟩])
 (.seq (.seq (.reg false [⟨d22, .faddr 0 t4, none, 0, 0, 0⟩,
  ⟨d23, .load false 1 t22, none, 1, 0, 0⟩,
  ⟨d24, .len 0 t23, none, 1, 0, 0⟩,
  ⟨d25, .bin .gtr .scalar t24 (.c (.int .i64 (100))), none, 0, 0, 0⟩,
  ⟨d26, .mv t25, none, 0, 0, 0⟩,
  ⟨d27, .faddr 1 t4, (some (p26, false)), 0, 0, 0⟩,
  ⟨d28, .load false 1 t27, (some (p26, false)), 1, 0, 0⟩,
  ⟨d29, .len 1 t28, (some (p26, false)), 1, 0, 0⟩,
  ⟨d30, .bin .gtr .scalar t29 (.c (.int .i64 (15))), (some (p26, false)), 0, 0, 0⟩,
  ⟨d31, .pick t26 (.c (.bool true)) t30, none, 0, 0, 0⟩,
  ⟨d32, .mv t31, none, 0, 0, 0⟩,
  ⟨d33, .faddr 2 t4, (some (p32, false)), 0, 0, 0⟩,
  ⟨d34, .load false 1 t33, (some (p32, false)), 1, 0, 0⟩,
  ⟨d35, .len 1 t34, (some (p32, false)), 1, 0, 0⟩,
  ⟨d36, .bin .gtr .scalar t35 (.c (.int .i64 (30))), (some (p32, false)), 0, 0, 0⟩,
  ⟨d37, .pick t32 (.c (.bool true)) t36, none, 0, 0, 0⟩])
 (.cond t37
 (.seq (.reg false [⟨d2, .mv (.c (.bool false)), none, 0, 0, 0⟩])
 .ret)
 .skip))
 (.seq (.reg false [⟨d5, .mv (.c (.int .i64 (0))), none, 0, 0, 0⟩])
 (.block 2 (.loop (.seq (.seq (.reg false [⟨d38, .mv t5, none, 0, 0, 0⟩,
  ⟨d39, .faddr 1 t4, none, 0, 0, 0⟩,
  ⟨d40, .load false 1 t39, none, 1, 0, 0⟩,
  ⟨d41, .len 1 t40, none, 1, 0, 0⟩,
  ⟨d42, .bin .lss .scalar t38 t41, none, 0, 0, 0⟩])
 (.cond t42
 .skip
 (.exit 2)))
 (.seq (.block 3 (.seq (.reg false [⟨d45, .faddr 1 t4, none, 0, 0, 0⟩,
  ⟨d46, .load false 1 t45, none, 1, 0, 0⟩,
  ⟨d47, .mv t5, none, 0, 0, 0⟩,
  ⟨d48, .iaddr none 3 t46 t47, none, 0, 0, 0⟩,
  ⟨d49, .faddr 0 t48, none, 0, 0, 0⟩,
  ⟨d50, .load false 1 t49, none, 1, 0, 0⟩,
  ⟨d51, .len 0 t50, none, 1, 0, 0⟩,
  ⟨d52, .bin .gtr .scalar t51 (.c (.int .i64 (100))), none, 0, 0, 0⟩])
 (.cond t52
 (.seq (.reg false [⟨d2, .mv (.c (.bool false)), none, 0, 0, 0⟩])
 .ret)
 .skip)))
 (.reg false [⟨d43, .mv t5, none, 0, 0, 0⟩,
  ⟨d44, .bin .add .scalar t43 (.c (.int .i64 (1))), none, 0, 0, 0⟩,
  ⟨d5, .mv t44, none, 0, 0, 0⟩])))))))))
 (.reg false [⟨d15, .mv t3, none, 0, 0, 0⟩,
  ⟨d16, .bin .add .scalar t15 (.c (.int .i64 (1))), none, 0, 0, 0⟩,
  ⟨d3, .mv t16, none, 0, 0, 0⟩])))

section
variable {call : Fk.D → List Fk.D → St → Option (Fk.D × St)} {pure : Fk.D → Bool}
def SQ (x : X) (f' : Fr) : Prop := x = .ret ∧ f'.defers = [] ∧ ∃ b, f'.env.get p2 = .v (.bool b)

theorem small_fin {v0 v1 L : Fk.D} (hL : IsSl IsTab L) {e : Env} {st : St} {id : Nat} (g1 : e.get p1 = .ptr id 0) (own : Own st id [v0, v1, L]) : Ex call pure smFin ⟨e, [], st⟩ SQ := by
  have gm := own.get
  have hlen := hL.len st
  simp only [p0, p1, p2, p3, p4, p5, p6, p7, p8, p9, p10, p11, p12, p13, p14, p15, p16, p17, p18, p19, p20, p21, p22, p23, p24, p25, p26, p27, p28, p29, p30, p31, p32, p33, p34, p35, p36, p37, p38, p39, p40, p41, p42, p43, p44, p45, p46, p47, p48, p49, p50, p51, p52, p53, p54, p55, p56] at g1
  unfold smFin
  refine Ex.seq ?_
  apply Ex.of
  · simp [evC, runOps, step1, wantedD, evQ, evM, setD, Opd.ev, Env.get_set, faddrQ, loadQ, binQ, binV, i64, loadD, zval, iaddrQ, asI, D.int?, elemAt, loadE, D.cells, Option.map_some, List.map, deferD, D.szOk, put, p0, p1, p2, p3, p4, p5, p6, p7, p8, p9, p10, p11, p12, p13, p14, p15, p16, p17, p18, p19, p20, p21, p22, p23, p24, p25, p26, p27, p28, p29, p30, p31, p32, p33, p34, p35, p36, p37, p38, p39, p40, p41, p42, p43, p44, p45, p46, p47, p48, p49, p50, p51, p52, p53, p54, p55, p56, d0, d1, d2, d3, d4, d5, d6, d7, d8, d9, d10, d11, d12, d13, d14, d15, d16, d17, d18, d19, d20, d21, d22, d23, d24, d25, d26, d27, d28, d29, d30, d31, d32, d33, d34, d35, d36, d37, d38, d39, d40, d41, d42, d43, d44, d45, d46, d47, d48, d49, d50, d51, d52, d53, d54, d55, d56, t0, t1, t2, t3, t4, t5, t6, t7, t8, t9, t10, t11, t12, t13, t14, t15, t16, t17, t18, t19, t20, t21, t22, t23, t24, t25, t26, t27, t28, t29, t30, t31, t32, t33, t34, t35, t36, t37, t38, t39, t40, t41, t42, t43, t44, t45, t46, t47, t48, t49, t50, t51, t52, t53, t54, t55, t56, g1, gm, hlen]; exact ⟨rfl, rfl⟩
  exact Ex.ret ⟨rfl, rfl, !ltI 10 (slN L), by simp [Env.get_set, p0, p1, p2, p3, p4, p5, p6, p7, p8, p9, p10, p11, p12, p13, p14, p15, p16, p17, p18, p19, p20, p21, p22, p23, p24, p25, p26, p27, p28, p29, p30, p31, p32, p33, p34, p35, p36, p37, p38, p39, p40, p41, p42, p43, p44, p45, p46, p47, p48, p49, p50, p51, p52, p53, p54, p55, p56]⟩

/-- A column: its name is too long, or not. -/
theorem small_col {c : Fk.D} (hc : IsSl IsCol c) {nm g : Fk.D} {e : Env} {st : St} {it k : Nat} (hk : k ≤ slN c) (hm : slN c ≤ 9223372036854775806) (g4 : e.get p4 = .ptr it 0) (g5 : e.get p5 = i64 k) (own : Own st it [nm, c, g]) :
    Ex call pure smB2 ⟨e, [], st⟩ fun x f' => match x with
      | .nrm => k < slN c ∧ ∃ e', f' = ⟨e', [], st⟩ ∧ e'.get p4 = .ptr it 0 ∧ e'.get p5 = i64 ((k + 1 : Nat)) ∧ e'.get p1 = e.get p1 ∧ e'.get p3 = e.get p3
      | .exit id => id = 2 ∧ ∃ e', f' = ⟨e', [], st⟩ ∧ e'.get p1 = e.get p1 ∧ e'.get p3 = e.get p3
      | .ret => SQ .ret f' := by
  have gm := own.get
  have hlen := hc.len st
  have ss : ∀ s, (Fk.D.v (.string s)).single = true := fun _ => rfl
  have ls : ∀ s, lenQ st 0 (.v (.string s)) = some (i64 s.size) := fun _ => rfl
  generalize q1 : e.get p1 = x1
  generalize q3 : e.get p3 = x3
  simp only [p0, p1, p2, p3, p4, p5, p6, p7, p8, p9, p10, p11, p12, p13, p14, p15, p16, p17, p18, p19, p20, p21, p22, p23, p24, p25, p26, p27, p28, p29, p30, p31, p32, p33, p34, p35, p36, p37, p38, p39, p40, p41, p42, p43, p44, p45, p46, p47, p48, p49, p50, p51, p52, p53, p54, p55, p56] at g4 g5 q1 q3
  unfold smB2
  refine Ex.seq ?_
  refine Ex.seq ?_
  apply Ex.of
  · simp [evC, runOps, step1, wantedD, evQ, evM, setD, Opd.ev, Env.get_set, faddrQ, loadQ, binQ, binV, i64, loadD, zval, iaddrQ, asI, D.int?, elemAt, loadE, D.cells, Option.map_some, List.map, deferD, D.szOk, put, p0, p1, p2, p3, p4, p5, p6, p7, p8, p9, p10, p11, p12, p13, p14, p15, p16, p17, p18, p19, p20, p21, p22, p23, p24, p25, p26, p27, p28, p29, p30, p31, p32, p33, p34, p35, p36, p37, p38, p39, p40, p41, p42, p43, p44, p45, p46, p47, p48, p49, p50, p51, p52, p53, p54, p55, p56, d0, d1, d2, d3, d4, d5, d6, d7, d8, d9, d10, d11, d12, d13, d14, d15, d16, d17, d18, d19, d20, d21, d22, d23, d24, d25, d26, d27, d28, d29, d30, d31, d32, d33, d34, d35, d36, d37, d38, d39, d40, d41, d42, d43, d44, d45, d46, d47, d48, d49, d50, d51, d52, d53, d54, d55, d56, t0, t1, t2, t3, t4, t5, t6, t7, t8, t9, t10, t11, t12, t13, t14, t15, t16, t17, t18, t19, t20, t21, t22, t23, t24, t25, t26, t27, t28, t29, t30, t31, t32, t33, t34, t35, t36, t37, t38, t39, t40, t41, t42, t43, t44, t45, t46, t47, t48, t49, t50, t51, t52, t53, t54, t55, t56, g4, g5, gm, hlen]; exact ⟨rfl, rfl⟩
  refine Ex.cond (t := ltI k (slN c)) (by simp [Opd.ev, Env.get_set, p0, p1, p2, p3, p4, p5, p6, p7, p8, p9, p10, p11, p12, p13, p14, p15, p16, p17, p18, p19, p20, p21, p22, p23, p24, p25, p26, p27, p28, p29, p30, p31, p32, p33, p34, p35, p36, p37, p38, p39, p40, p41, p42, p43, p44, p45, p46, p47, p48, p49, p50, p51, p52, p53, p54, p55, p56, t42]) ?_
  cases hlt : ltI k (slN c) with
  | false =>
    refine Ex.exit ⟨rfl, _, rfl, ?_, ?_⟩
    · simp [Env.get_set, p0, p1, p2, p3, p4, p5, p6, p7, p8, p9, p10, p11, p12, p13, p14, p15, p16, p17, p18, p19, p20, p21, p22, p23, p24, p25, p26, p27, p28, p29, p30, p31, p32, p33, p34, p35, p36, p37, p38, p39, p40, p41, p42, p43, p44, p45, p46, p47, p48, p49, p50, p51, p52, p53, p54, p55, p56, q1]
    · simp [Env.get_set, p0, p1, p2, p3, p4, p5, p6, p7, p8, p9, p10, p11, p12, p13, p14, p15, p16, p17, p18, p19, p20, p21, p22, p23, p24, p25, p26, p27, p28, p29, p30, p31, p32, p33, p34, p35, p36, p37, p38, p39, p40, p41, p42, p43, p44, p45, p46, p47, p48, p49, p50, p51, p52, p53, p54, p55, p56, q3]
  | true =>
    rw [ltI_eq] at hlt
    have hlt' : k < slN c := by simpa using hlt
    obtain ⟨xs, x, rfl, hx, s, a, b, rfl, ha, hb⟩ := hc.at hlt'
    refine Ex.skip ?_
    refine Ex.seq ?_
    refine Ex.block ?_
    refine Ex.seq ?_
    apply Ex.of
    · simp [evC, runOps, step1, wantedD, evQ, evM, setD, Opd.ev, Env.get_set, faddrQ, loadQ, binQ, binV, i64, loadD, zval, iaddrQ, asI, D.int?, elemAt, loadE, D.cells, Option.map_some, List.map, deferD, D.szOk, put, p0, p1, p2, p3, p4, p5, p6, p7, p8, p9, p10, p11, p12, p13, p14, p15, p16, p17, p18, p19, p20, p21, p22, p23, p24, p25, p26, p27, p28, p29, p30, p31, p32, p33, p34, p35, p36, p37, p38, p39, p40, p41, p42, p43, p44, p45, p46, p47, p48, p49, p50, p51, p52, p53, p54, p55, p56, d0, d1, d2, d3, d4, d5, d6, d7, d8, d9, d10, d11, d12, d13, d14, d15, d16, d17, d18, d19, d20, d21, d22, d23, d24, d25, d26, d27, d28, d29, d30, d31, d32, d33, d34, d35, d36, d37, d38, d39, d40, d41, d42, d43, d44, d45, d46, d47, d48, d49, d50, d51, d52, d53, d54, d55, d56, t0, t1, t2, t3, t4, t5, t6, t7, t8, t9, t10, t11, t12, t13, t14, t15, t16, t17, t18, t19, t20, t21, t22, t23, t24, t25, t26, t27, t28, t29, t30, t31, t32, t33, t34, t35, t36, t37, t38, t39, t40, t41, t42, t43, t44, t45, t46, t47, t48, t49, t50, t51, t52, t53, t54, t55, t56, g4, g5, gm, hx, ha, hb, ls, ss]; exact ⟨rfl, rfl⟩
    refine Ex.cond (t := ltI 100 s.size) (by simp [Opd.ev, Env.get_set, p0, p1, p2, p3, p4, p5, p6, p7, p8, p9, p10, p11, p12, p13, p14, p15, p16, p17, p18, p19, p20, p21, p22, p23, p24, p25, p26, p27, p28, p29, p30, p31, p32, p33, p34, p35, p36, p37, p38, p39, p40, p41, p42, p43, p44, p45, p46, p47, p48, p49, p50, p51, p52, p53, p54, p55, p56, t52]) ?_
    cases ltI 100 s.size with
    | true =>
      refine Ex.seq ?_
      apply Ex.of
      · simp [evC, runOps, step1, wantedD, evQ, evM, setD, Opd.ev, Env.get_set, faddrQ, loadQ, binQ, binV, i64, loadD, zval, iaddrQ, asI, D.int?, elemAt, loadE, D.cells, Option.map_some, List.map, deferD, D.szOk, put, p0, p1, p2, p3, p4, p5, p6, p7, p8, p9, p10, p11, p12, p13, p14, p15, p16, p17, p18, p19, p20, p21, p22, p23, p24, p25, p26, p27, p28, p29, p30, p31, p32, p33, p34, p35, p36, p37, p38, p39, p40, p41, p42, p43, p44, p45, p46, p47, p48, p49, p50, p51, p52, p53, p54, p55, p56, d0, d1, d2, d3, d4, d5, d6, d7, d8, d9, d10, d11, d12, d13, d14, d15, d16, d17, d18, d19, d20, d21, d22, d23, d24, d25, d26, d27, d28, d29, d30, d31, d32, d33, d34, d35, d36, d37, d38, d39, d40, d41, d42, d43, d44, d45, d46, d47, d48, d49, d50, d51, d52, d53, d54, d55, d56, t0, t1, t2, t3, t4, t5, t6, t7, t8, t9, t10, t11, t12, t13, t14, t15, t16, t17, t18, t19, t20, t21, t22, t23, t24, t25, t26, t27, t28, t29, t30, t31, t32, t33, t34, t35, t36, t37, t38, t39, t40, t41, t42, t43, t44, t45, t46, t47, t48, t49, t50, t51, t52, t53, t54, t55, t56]; exact ⟨rfl, rfl⟩
      exact Ex.ret ⟨rfl, rfl, false, by simp [Env.get_set, p0, p1, p2, p3, p4, p5, p6, p7, p8, p9, p10, p11, p12, p13, p14, p15, p16, p17, p18, p19, p20, p21, p22, p23, p24, p25, p26, p27, p28, p29, p30, p31, p32, p33, p34, p35, p36, p37, p38, p39, p40, p41, p42, p43, p44, p45, p46, p47, p48, p49, p50, p51, p52, p53, p54, p55, p56]⟩
    | false =>
      refine Ex.skip ?_
      apply Ex.of
      · simp [evC, runOps, step1, wantedD, evQ, evM, setD, Opd.ev, Env.get_set, faddrQ, loadQ, binQ, binV, i64, loadD, zval, iaddrQ, asI, D.int?, elemAt, loadE, D.cells, Option.map_some, List.map, deferD, D.szOk, put, p0, p1, p2, p3, p4, p5, p6, p7, p8, p9, p10, p11, p12, p13, p14, p15, p16, p17, p18, p19, p20, p21, p22, p23, p24, p25, p26, p27, p28, p29, p30, p31, p32, p33, p34, p35, p36, p37, p38, p39, p40, p41, p42, p43, p44, p45, p46, p47, p48, p49, p50, p51, p52, p53, p54, p55, p56, d0, d1, d2, d3, d4, d5, d6, d7, d8, d9, d10, d11, d12, d13, d14, d15, d16, d17, d18, d19, d20, d21, d22, d23, d24, d25, d26, d27, d28, d29, d30, d31, d32, d33, d34, d35, d36, d37, d38, d39, d40, d41, d42, d43, d44, d45, d46, d47, d48, d49, d50, d51, d52, d53, d54, d55, d56, t0, t1, t2, t3, t4, t5, t6, t7, t8, t9, t10, t11, t12, t13, t14, t15, t16, t17, t18, t19, t20, t21, t22, t23, t24, t25, t26, t27, t28, t29, t30, t31, t32, t33, t34, t35, t36, t37, t38, t39, t40, t41, t42, t43, t44, t45, t46, t47, t48, t49, t50, t51, t52, t53, t54, t55, t56, g5]; exact ⟨rfl, rfl⟩
      refine ⟨hlt', _, rfl, ?_, ?_, ?_, ?_⟩
      · simp [Env.get_set, p0, p1, p2, p3, p4, p5, p6, p7, p8, p9, p10, p11, p12, p13, p14, p15, p16, p17, p18, p19, p20, p21, p22, p23, p24, p25, p26, p27, p28, p29, p30, p31, p32, p33, p34, p35, p36, p37, p38, p39, p40, p41, p42, p43, p44, p45, p46, p47, p48, p49, p50, p51, p52, p53, p54, p55, p56, g4]
      · have hw : IntKind.i64.wrap ((k : Int) + 1) = (k : Int) + 1 := wrap64_of _ (by omega) (by omega)
        simp [Env.get_set, p0, p1, p2, p3, p4, p5, p6, p7, p8, p9, p10, p11, p12, p13, p14, p15, p16, p17, p18, p19, p20, p21, p22, p23, p24, p25, p26, p27, p28, p29, p30, p31, p32, p33, p34, p35, p36, p37, p38, p39, p40, p41, p42, p43, p44, p45, p46, p47, p48, p49, p50, p51, p52, p53, p54, p55, p56, i64, hw]
      · simp [Env.get_set, p0, p1, p2, p3, p4, p5, p6, p7, p8, p9, p10, p11, p12, p13, p14, p15, p16, p17, p18, p19, p20, p21, p22, p23, p24, p25, p26, p27, p28, p29, p30, p31, p32, p33, p34, p35, p36, p37, p38, p39, p40, p41, p42, p43, p44, p45, p46, p47, p48, p49, p50, p51, p52, p53, p54, p55, p56, q1]
      · simp [Env.get_set, p0, p1, p2, p3, p4, p5, p6, p7, p8, p9, p10, p11, p12, p13, p14, p15, p16, p17, p18, p19, p20, p21, p22, p23, p24, p25, p26, p27, p28, p29, p30, p31, p32, p33, p34, p35, p36, p37, p38, p39, p40, p41, p42, p43, p44, p45, p46, p47, p48, p49, p50, p51, p52, p53, p54, p55, p56, q3]

/-- A table's columns, from one on. -/
theorem small_tab {tn g : Fk.D} {c : Fk.D} {s0 : ByteArray} (htn : tn = .v (.string s0)) (hc : IsSl IsCol c) (hgs : IsSl (fun _ => True) g) {e : Env} {st : St} {it : Nat} (g4 : e.get p4 = .ptr it 0) (own : Own st it [tn, c, g]) :
    Ex call pure smT ⟨e, [], st⟩ fun x f' => match x with
      | .nrm => slN c ≤ 15 ∧ ∃ e', f' = ⟨e', [], st⟩ ∧ e'.get p4 = .ptr it 0 ∧ e'.get p1 = e.get p1 ∧ e'.get p3 = e.get p3
      | .exit _ => False
      | .ret => SQ .ret f' := by
  have gm := own.get
  have hlen := hc.len st
  have hlen2 := hgs.len st
  have ls : ∀ s, lenQ st 0 (.v (.string s)) = some (i64 s.size) := fun _ => rfl
  generalize q1 : e.get p1 = x1
  generalize q3 : e.get p3 = x3
  simp only [p0, p1, p2, p3, p4, p5, p6, p7, p8, p9, p10, p11, p12, p13, p14, p15, p16, p17, p18, p19, p20, p21, p22, p23, p24, p25, p26, p27, p28, p29, p30, p31, p32, p33, p34, p35, p36, p37, p38, p39, p40, p41, p42, p43, p44, p45, p46, p47, p48, p49, p50, p51, p52, p53, p54, p55, p56] at g4 q1 q3
  subst htn
  unfold smT
  refine Ex.seq ?_
  cases hA : ltI 100 s0.size <;> cases hB : ltI 15 (slN c) <;> cases hC : ltI 30 (slN g)
  all_goals
    apply Ex.of
    · simp [evC, runOps, step1, wantedD, evQ, evM, setD, Opd.ev, Env.get_set, faddrQ, loadQ, binQ, binV, i64, loadD, zval, iaddrQ, asI, D.int?, elemAt, loadE, D.cells, Option.map_some, List.map, deferD, D.szOk, put, p0, p1, p2, p3, p4, p5, p6, p7, p8, p9, p10, p11, p12, p13, p14, p15, p16, p17, p18, p19, p20, p21, p22, p23, p24, p25, p26, p27, p28, p29, p30, p31, p32, p33, p34, p35, p36, p37, p38, p39, p40, p41, p42, p43, p44, p45, p46, p47, p48, p49, p50, p51, p52, p53, p54, p55, p56, d0, d1, d2, d3, d4, d5, d6, d7, d8, d9, d10, d11, d12, d13, d14, d15, d16, d17, d18, d19, d20, d21, d22, d23, d24, d25, d26, d27, d28, d29, d30, d31, d32, d33, d34, d35, d36, d37, d38, d39, d40, d41, d42, d43, d44, d45, d46, d47, d48, d49, d50, d51, d52, d53, d54, d55, d56, t0, t1, t2, t3, t4, t5, t6, t7, t8, t9, t10, t11, t12, t13, t14, t15, t16, t17, t18, t19, t20, t21, t22, t23, t24, t25, t26, t27, t28, t29, t30, t31, t32, t33, t34, t35, t36, t37, t38, t39, t40, t41, t42, t43, t44, t45, t46, t47, t48, t49, t50, t51, t52, t53, t54, t55, t56, g4, gm, hlen, hlen2, ls, hA, hB, hC]; exact ⟨rfl, rfl⟩
  case false.false.false =>
    refine Ex.cond (t := false) (by simp [Opd.ev, Env.get_set, p0, p1, p2, p3, p4, p5, p6, p7, p8, p9, p10, p11, p12, p13, p14, p15, p16, p17, p18, p19, p20, p21, p22, p23, p24, p25, p26, p27, p28, p29, p30, p31, p32, p33, p34, p35, p36, p37, p38, p39, p40, p41, p42, p43, p44, p45, p46, p47, p48, p49, p50, p51, p52, p53, p54, p55, p56, t37]) ?_
    refine Ex.skip ?_
    rw [ltI_eq] at hB
    refine ⟨by simp at hB; omega, _, rfl, ?_, ?_, ?_⟩
    · simp [Env.get_set, p0, p1, p2, p3, p4, p5, p6, p7, p8, p9, p10, p11, p12, p13, p14, p15, p16, p17, p18, p19, p20, p21, p22, p23, p24, p25, p26, p27, p28, p29, p30, p31, p32, p33, p34, p35, p36, p37, p38, p39, p40, p41, p42, p43, p44, p45, p46, p47, p48, p49, p50, p51, p52, p53, p54, p55, p56, g4]
    · simp [Env.get_set, p0, p1, p2, p3, p4, p5, p6, p7, p8, p9, p10, p11, p12, p13, p14, p15, p16, p17, p18, p19, p20, p21, p22, p23, p24, p25, p26, p27, p28, p29, p30, p31, p32, p33, p34, p35, p36, p37, p38, p39, p40, p41, p42, p43, p44, p45, p46, p47, p48, p49, p50, p51, p52, p53, p54, p55, p56, q1]
    · simp [Env.get_set, p0, p1, p2, p3, p4, p5, p6, p7, p8, p9, p10, p11, p12, p13, p14, p15, p16, p17, p18, p19, p20, p21, p22, p23, p24, p25, p26, p27, p28, p29, p30, p31, p32, p33, p34, p35, p36, p37, p38, p39, p40, p41, p42, p43, p44, p45, p46, p47, p48, p49, p50, p51, p52, p53, p54, p55, p56, q3]
  all_goals
    refine Ex.cond (t := true) (by simp [Opd.ev, Env.get_set, p0, p1, p2, p3, p4, p5, p6, p7, p8, p9, p10, p11, p12, p13, p14, p15, p16, p17, p18, p19, p20, p21, p22, p23, p24, p25, p26, p27, p28, p29, p30, p31, p32, p33, p34, p35, p36, p37, p38, p39, p40, p41, p42, p43, p44, p45, p46, p47, p48, p49, p50, p51, p52, p53, p54, p55, p56, t37]) ?_
    refine Ex.seq ?_
    apply Ex.of
    · simp [evC, runOps, step1, wantedD, evQ, evM, setD, Opd.ev, Env.get_set, faddrQ, loadQ, binQ, binV, i64, loadD, zval, iaddrQ, asI, D.int?, elemAt, loadE, D.cells, Option.map_some, List.map, deferD, D.szOk, put, p0, p1, p2, p3, p4, p5, p6, p7, p8, p9, p10, p11, p12, p13, p14, p15, p16, p17, p18, p19, p20, p21, p22, p23, p24, p25, p26, p27, p28, p29, p30, p31, p32, p33, p34, p35, p36, p37, p38, p39, p40, p41, p42, p43, p44, p45, p46, p47, p48, p49, p50, p51, p52, p53, p54, p55, p56, d0, d1, d2, d3, d4, d5, d6, d7, d8, d9, d10, d11, d12, d13, d14, d15, d16, d17, d18, d19, d20, d21, d22, d23, d24, d25, d26, d27, d28, d29, d30, d31, d32, d33, d34, d35, d36, d37, d38, d39, d40, d41, d42, d43, d44, d45, d46, d47, d48, d49, d50, d51, d52, d53, d54, d55, d56, t0, t1, t2, t3, t4, t5, t6, t7, t8, t9, t10, t11, t12, t13, t14, t15, t16, t17, t18, t19, t20, t21, t22, t23, t24, t25, t26, t27, t28, t29, t30, t31, t32, t33, t34, t35, t36, t37, t38, t39, t40, t41, t42, t43, t44, t45, t46, t47, t48, t49, t50, t51, t52, t53, t54, t55, t56]; exact ⟨rfl, rfl⟩
    exact Ex.ret ⟨rfl, rfl, false, by simp [Env.get_set, p0, p1, p2, p3, p4, p5, p6, p7, p8, p9, p10, p11, p12, p13, p14, p15, p16, p17, p18, p19, p20, p21, p22, p23, p24, p25, p26, p27, p28, p29, p30, p31, p32, p33, p34, p35, p36, p37, p38, p39, p40, p41, p42, p43, p44, p45, p46, p47, p48, p49, p50, p51, p52, p53, p54, p55, p56]⟩

/-- A round: a table. -/
theorem small_round {v0 v1 L : Fk.D} (hL : IsSl IsTab L) {e : Env} {st : St} {id i : Nat} (hi : i ≤ 12) (g1 : e.get p1 = .ptr id 0) (g3 : e.get p3 = i64 i) (own : Own st id [v0, v1, L]) :
    Ex call pure smBody ⟨e, [], st⟩ fun x f' => match x with
      | .nrm => i < 12 ∧ ∃ e' st', f' = ⟨e', [], st'⟩ ∧ e'.get p1 = .ptr id 0 ∧ e'.get p3 = i64 ((i + 1 : Nat)) ∧ Own st' id [v0, v1, L]
      | .exit n => n = 0 ∧ ∃ e' st', f' = ⟨e', [], st'⟩ ∧ e'.get p1 = .ptr id 0 ∧ Own st' id [v0, v1, L]
      | .ret => SQ .ret f' := by
  have gm := own.get
  have hlen := hL.len st
  simp only [p0, p1, p2, p3, p4, p5, p6, p7, p8, p9, p10, p11, p12, p13, p14, p15, p16, p17, p18, p19, p20, p21, p22, p23, p24, p25, p26, p27, p28, p29, p30, p31, p32, p33, p34, p35, p36, p37, p38, p39, p40, p41, p42, p43, p44, p45, p46, p47, p48, p49, p50, p51, p52, p53, p54, p55, p56] at g1 g3
  unfold smBody
  refine Ex.seq ?_
  refine Ex.seq ?_
  cases hlt : ltI i (slN L) with
  | false =>
    apply Ex.of
    · simp [evC, runOps, step1, wantedD, evQ, evM, setD, Opd.ev, Env.get_set, faddrQ, loadQ, binQ, binV, i64, loadD, zval, iaddrQ, asI, D.int?, elemAt, loadE, D.cells, Option.map_some, List.map, deferD, D.szOk, put, p0, p1, p2, p3, p4, p5, p6, p7, p8, p9, p10, p11, p12, p13, p14, p15, p16, p17, p18, p19, p20, p21, p22, p23, p24, p25, p26, p27, p28, p29, p30, p31, p32, p33, p34, p35, p36, p37, p38, p39, p40, p41, p42, p43, p44, p45, p46, p47, p48, p49, p50, p51, p52, p53, p54, p55, p56, d0, d1, d2, d3, d4, d5, d6, d7, d8, d9, d10, d11, d12, d13, d14, d15, d16, d17, d18, d19, d20, d21, d22, d23, d24, d25, d26, d27, d28, d29, d30, d31, d32, d33, d34, d35, d36, d37, d38, d39, d40, d41, d42, d43, d44, d45, d46, d47, d48, d49, d50, d51, d52, d53, d54, d55, d56, t0, t1, t2, t3, t4, t5, t6, t7, t8, t9, t10, t11, t12, t13, t14, t15, t16, t17, t18, t19, t20, t21, t22, t23, t24, t25, t26, t27, t28, t29, t30, t31, t32, t33, t34, t35, t36, t37, t38, t39, t40, t41, t42, t43, t44, t45, t46, t47, t48, t49, t50, t51, t52, t53, t54, t55, t56, g1, g3, gm, hlen, hlt]; exact ⟨rfl, rfl⟩
    refine Ex.cond (t := false) (by simp [Opd.ev, Env.get_set, p0, p1, p2, p3, p4, p5, p6, p7, p8, p9, p10, p11, p12, p13, p14, p15, p16, p17, p18, p19, p20, p21, p22, p23, p24, p25, p26, p27, p28, p29, p30, p31, p32, p33, p34, p35, p36, p37, p38, p39, p40, p41, p42, p43, p44, p45, p46, p47, p48, p49, p50, p51, p52, p53, p54, p55, p56, t14]) ?_
    exact Ex.exit ⟨rfl, _, _, rfl, by simp [Env.get_set, p0, p1, p2, p3, p4, p5, p6, p7, p8, p9, p10, p11, p12, p13, p14, p15, p16, p17, p18, p19, p20, p21, p22, p23, p24, p25, p26, p27, p28, p29, p30, p31, p32, p33, p34, p35, p36, p37, p38, p39, p40, p41, p42, p43, p44, p45, p46, p47, p48, p49, p50, p51, p52, p53, p54, p55, p56, g1], own⟩
  | true =>
    apply Ex.of
    · simp [evC, runOps, step1, wantedD, evQ, evM, setD, Opd.ev, Env.get_set, faddrQ, loadQ, binQ, binV, i64, loadD, zval, iaddrQ, asI, D.int?, elemAt, loadE, D.cells, Option.map_some, List.map, deferD, D.szOk, put, p0, p1, p2, p3, p4, p5, p6, p7, p8, p9, p10, p11, p12, p13, p14, p15, p16, p17, p18, p19, p20, p21, p22, p23, p24, p25, p26, p27, p28, p29, p30, p31, p32, p33, p34, p35, p36, p37, p38, p39, p40, p41, p42, p43, p44, p45, p46, p47, p48, p49, p50, p51, p52, p53, p54, p55, p56, d0, d1, d2, d3, d4, d5, d6, d7, d8, d9, d10, d11, d12, d13, d14, d15, d16, d17, d18, d19, d20, d21, d22, d23, d24, d25, d26, d27, d28, d29, d30, d31, d32, d33, d34, d35, d36, d37, d38, d39, d40, d41, d42, d43, d44, d45, d46, d47, d48, d49, d50, d51, d52, d53, d54, d55, d56, t0, t1, t2, t3, t4, t5, t6, t7, t8, t9, t10, t11, t12, t13, t14, t15, t16, t17, t18, t19, t20, t21, t22, t23, t24, t25, t26, t27, t28, t29, t30, t31, t32, t33, t34, t35, t36, t37, t38, t39, t40, t41, t42, t43, t44, t45, t46, t47, t48, t49, t50, t51, t52, t53, t54, t55, t56, g1, g3, gm, hlen, hlt]; exact ⟨rfl, rfl⟩
    refine Ex.cond (t := ltI i 12) (by simp [Opd.ev, Env.get_set, p0, p1, p2, p3, p4, p5, p6, p7, p8, p9, p10, p11, p12, p13, p14, p15, p16, p17, p18, p19, p20, p21, p22, p23, p24, p25, p26, p27, p28, p29, p30, p31, p32, p33, p34, p35, p36, p37, p38, p39, p40, p41, p42, p43, p44, p45, p46, p47, p48, p49, p50, p51, p52, p53, p54, p55, p56, t14]) ?_
    cases h12 : ltI i 12 with
    | false => exact Ex.exit ⟨rfl, _, _, rfl, by simp [Env.get_set, p0, p1, p2, p3, p4, p5, p6, p7, p8, p9, p10, p11, p12, p13, p14, p15, p16, p17, p18, p19, p20, p21, p22, p23, p24, p25, p26, p27, p28, p29, p30, p31, p32, p33, p34, p35, p36, p37, p38, p39, p40, p41, p42, p43, p44, p45, p46, p47, p48, p49, p50, p51, p52, p53, p54, p55, p56, g1], own⟩
    | true =>
      rw [ltI_eq] at hlt h12
      have hlt' : i < slN L := by simpa using hlt
      have h12' : i < 12 := by simp at h12; omega
      obtain ⟨xs, x, rfl, hx, s, c, g, rfl, hc, hg⟩ := hL.at hlt'
      have cs := hc.single
      have gs := hg.single
      have ss : ∀ s, (Fk.D.v (.string s)).single = true := fun _ => rfl
      refine Ex.skip ?_
      refine Ex.gen (fun e => e.get p1 = .ptr id 0 ∧ e.get p3 = i64 i) ⟨by simp [Env.get_set, p0, p1, p2, p3, p4, p5, p6, p7, p8, p9, p10, p11, p12, p13, p14, p15, p16, p17, p18, p19, p20, p21, p22, p23, p24, p25, p26, p27, p28, p29, p30, p31, p32, p33, p34, p35, p36, p37, p38, p39, p40, p41, p42, p43, p44, p45, p46, p47, p48, p49, p50, p51, p52, p53, p54, p55, p56, g1], by simp [Env.get_set, p0, p1, p2, p3, p4, p5, p6, p7, p8, p9, p10, p11, p12, p13, p14, p15, p16, p17, p18, p19, p20, p21, p22, p23, p24, p25, p26, p27, p28, p29, p30, p31, p32, p33, p34, p35, p36, p37, p38, p39, p40, p41, p42, p43, p44, p45, p46, p47, p48, p49, p50, p51, p52, p53, p54, p55, p56, g3]⟩ (fun e ⟨g1, g3⟩ => ?_)
      simp only [p0, p1, p2, p3, p4, p5, p6, p7, p8, p9, p10, p11, p12, p13, p14, p15, p16, p17, p18, p19, p20, p21, p22, p23, p24, p25, p26, p27, p28, p29, p30, p31, p32, p33, p34, p35, p36, p37, p38, p39, p40, p41, p42, p43, p44, p45, p46, p47, p48, p49, p50, p51, p52, p53, p54, p55, p56] at g1 g3
      have own2 : Own (st.push (.cells [.v (.string (bsN [])), .v (.slice none 0 0), .v (.slice none 0 0)])) st.hn [.v (.string (bsN [])), .v (.slice none 0 0), .v (.slice none 0 0)] :=
        Own.new own.len (Nat.le_trans own.base (Nat.le_of_lt own.lt)) (Nat.le_trans own.cbase (Nat.le_of_lt own.lt))
      have gm2 := own2.get
      have wr2 := fun new o => own2.wr new o
      have own3 := (own.push (.cells [.v (.string (bsN [])), .v (.slice none 0 0), .v (.slice none 0 0)])).set (.cells [.v (.string s), c, g]) (j := st.hn) (by have := own.lt; omega)
      have own4 := own2.turn (ds' := [.v (.string s), c, g])
      refine Ex.seq ?_
      refine Ex.block ?_
      refine Ex.seq ?_
      apply Ex.of
      · simp [evC, runOps, step1, wantedD, evQ, evM, setD, Opd.ev, Env.get_set, faddrQ, loadQ, binQ, binV, i64, loadD, zval, iaddrQ, asI, D.int?, elemAt, loadE, D.cells, Option.map_some, List.map, deferD, D.szOk, put, p0, p1, p2, p3, p4, p5, p6, p7, p8, p9, p10, p11, p12, p13, p14, p15, p16, p17, p18, p19, p20, p21, p22, p23, p24, p25, p26, p27, p28, p29, p30, p31, p32, p33, p34, p35, p36, p37, p38, p39, p40, p41, p42, p43, p44, p45, p46, p47, p48, p49, p50, p51, p52, p53, p54, p55, p56, d0, d1, d2, d3, d4, d5, d6, d7, d8, d9, d10, d11, d12, d13, d14, d15, d16, d17, d18, d19, d20, d21, d22, d23, d24, d25, d26, d27, d28, d29, d30, d31, d32, d33, d34, d35, d36, d37, d38, d39, d40, d41, d42, d43, d44, d45, d46, d47, d48, d49, d50, d51, d52, d53, d54, d55, d56, t0, t1, t2, t3, t4, t5, t6, t7, t8, t9, t10, t11, t12, t13, t14, t15, t16, t17, t18, t19, t20, t21, t22, t23, t24, t25, t26, t27, t28, t29, t30, t31, t32, t33, t34, t35, t36, t37, t38, t39, t40, t41, t42, t43, t44, t45, t46, t47, t48, t49, t50, t51, t52, t53, t54, t55, t56, g1, g3, gm, hx, cs, gs, ss, gm2, wr2]; exact ⟨rfl, rfl⟩
      revert own3 own4
      generalize (st.push (.cells [.v (.string (bsN [])), .v (.slice none 0 0), .v (.slice none 0 0)])).set st.hn (.cells [.v (.string s), c, g]) = st2
      generalize st.hn = it
      intro own3 own4
      refine Ex.gen (fun e => e.get p1 = .ptr id 0 ∧ e.get p3 = i64 i ∧ e.get p4 = .ptr it 0) ⟨by simp [Env.get_set, p0, p1, p2, p3, p4, p5, p6, p7, p8, p9, p10, p11, p12, p13, p14, p15, p16, p17, p18, p19, p20, p21, p22, p23, p24, p25, p26, p27, p28, p29, p30, p31, p32, p33, p34, p35, p36, p37, p38, p39, p40, p41, p42, p43, p44, p45, p46, p47, p48, p49, p50, p51, p52, p53, p54, p55, p56, g1], by simp [Env.get_set, p0, p1, p2, p3, p4, p5, p6, p7, p8, p9, p10, p11, p12, p13, p14, p15, p16, p17, p18, p19, p20, p21, p22, p23, p24, p25, p26, p27, p28, p29, p30, p31, p32, p33, p34, p35, p36, p37, p38, p39, p40, p41, p42, p43, p44, p45, p46, p47, p48, p49, p50, p51, p52, p53, p54, p55, p56, g3], by simp [Env.get_set, p0, p1, p2, p3, p4, p5, p6, p7, p8, p9, p10, p11, p12, p13, p14, p15, p16, p17, p18, p19, p20, p21, p22, p23, p24, p25, p26, p27, p28, p29, p30, p31, p32, p33, p34, p35, p36, p37, p38, p39, p40, p41, p42, p43, p44, p45, p46, p47, p48, p49, p50, p51, p52, p53, p54, p55, p56]⟩ (fun e ⟨g1, g3, g4⟩ => ?_)
      refine Ex.seq ?_
      refine (small_tab rfl hc hg g4 own4).mono ?_
      rintro x f' hxx
      cases x with
      | exit n => exact hxx.elim
      | ret => exact hxx
      | nrm =>
        obtain ⟨h15, e', rfl, k4, k1, k3⟩ := hxx
        rw [g1] at k1
        rw [g3] at k3
        refine Ex.seq ?_
        apply Ex.of
        · simp [evC, runOps, step1, wantedD, evQ, evM, setD, Opd.ev, Env.get_set, faddrQ, loadQ, binQ, binV, i64, loadD, zval, iaddrQ, asI, D.int?, elemAt, loadE, D.cells, Option.map_some, List.map, deferD, D.szOk, put, p0, p1, p2, p3, p4, p5, p6, p7, p8, p9, p10, p11, p12, p13, p14, p15, p16, p17, p18, p19, p20, p21, p22, p23, p24, p25, p26, p27, p28, p29, p30, p31, p32, p33, p34, p35, p36, p37, p38, p39, p40, p41, p42, p43, p44, p45, p46, p47, p48, p49, p50, p51, p52, p53, p54, p55, p56, d0, d1, d2, d3, d4, d5, d6, d7, d8, d9, d10, d11, d12, d13, d14, d15, d16, d17, d18, d19, d20, d21, d22, d23, d24, d25, d26, d27, d28, d29, d30, d31, d32, d33, d34, d35, d36, d37, d38, d39, d40, d41, d42, d43, d44, d45, d46, d47, d48, d49, d50, d51, d52, d53, d54, d55, d56, t0, t1, t2, t3, t4, t5, t6, t7, t8, t9, t10, t11, t12, t13, t14, t15, t16, t17, t18, t19, t20, t21, t22, t23, t24, t25, t26, t27, t28, t29, t30, t31, t32, t33, t34, t35, t36, t37, t38, t39, t40, t41, t42, t43, t44, t45, t46, t47, t48, t49, t50, t51, t52, t53, t54, t55, t56]; exact ⟨rfl, rfl⟩
        simp only [p0, p1, p2, p3, p4, p5, p6, p7, p8, p9, p10, p11, p12, p13, p14, p15, p16, p17, p18, p19, p20, p21, p22, p23, p24, p25, p26, p27, p28, p29, p30, p31, p32, p33, p34, p35, p36, p37, p38, p39, p40, p41, p42, p43, p44, p45, p46, p47, p48, p49, p50, p51, p52, p53, p54, p55, p56] at k1 k3 k4
        refine Ex.gen (fun e => e.get p1 = .ptr id 0 ∧ e.get p3 = i64 i ∧ e.get p4 = .ptr it 0 ∧ e.get p5 = i64 ((0 : Nat))) ⟨by simp [Env.get_set, p0, p1, p2, p3, p4, p5, p6, p7, p8, p9, p10, p11, p12, p13, p14, p15, p16, p17, p18, p19, p20, p21, p22, p23, p24, p25, p26, p27, p28, p29, p30, p31, p32, p33, p34, p35, p36, p37, p38, p39, p40, p41, p42, p43, p44, p45, p46, p47, p48, p49, p50, p51, p52, p53, p54, p55, p56, k1], by simp [Env.get_set, p0, p1, p2, p3, p4, p5, p6, p7, p8, p9, p10, p11, p12, p13, p14, p15, p16, p17, p18, p19, p20, p21, p22, p23, p24, p25, p26, p27, p28, p29, p30, p31, p32, p33, p34, p35, p36, p37, p38, p39, p40, p41, p42, p43, p44, p45, p46, p47, p48, p49, p50, p51, p52, p53, p54, p55, p56, k3], by simp [Env.get_set, p0, p1, p2, p3, p4, p5, p6, p7, p8, p9, p10, p11, p12, p13, p14, p15, p16, p17, p18, p19, p20, p21, p22, p23, p24, p25, p26, p27, p28, p29, p30, p31, p32, p33, p34, p35, p36, p37, p38, p39, p40, p41, p42, p43, p44, p45, p46, p47, p48, p49, p50, p51, p52, p53, p54, p55, p56, k4], by simp [Env.get_set, p0, p1, p2, p3, p4, p5, p6, p7, p8, p9, p10, p11, p12, p13, p14, p15, p16, p17, p18, p19, p20, p21, p22, p23, p24, p25, p26, p27, p28, p29, p30, p31, p32, p33, p34, p35, p36, p37, p38, p39, p40, p41, p42, p43, p44, p45, p46, p47, p48, p49, p50, p51, p52, p53, p54, p55, p56, i64]⟩ (fun e ⟨g1, g3, g4, g5⟩ => ?_)
        refine Ex.block ?_
        refine Ex.loop (fun n f => ∃ (k : Nat) (e : Env), f = ⟨e, [], st2⟩ ∧ n + k = slN c ∧ e.get p1 = .ptr id 0 ∧ e.get p3 = i64 i ∧ e.get p4 = .ptr it 0 ∧ e.get p5 = i64 k) ?_ (slN c) _ ⟨0, e, rfl, rfl, g1, g3, g4, g5⟩ (by unfold LIM; omega)
        rintro n f ⟨k, e, rfl, hn, g1, g3, g4, g5⟩
        refine (small_col hc (by omega) (by omega) g4 g5 own4).mono ?_
        rintro x f' hxx
        cases x with
        | ret => exact hxx
        | nrm =>
          obtain ⟨hk, e', rfl, k4, k5, k1, k3⟩ := hxx
          exact ⟨n - 1, by omega, k + 1, e', rfl, by omega, k1.trans g1, k3.trans g3, k4, k5⟩
        | exit n =>
          obtain ⟨rfl, e', rfl, k1, k3⟩ := hxx
          rw [g1] at k1
          rw [g3] at k3
          simp only [p0, p1, p2, p3, p4, p5, p6, p7, p8, p9, p10, p11, p12, p13, p14, p15, p16, p17, p18, p19, p20, p21, p22, p23, p24, p25, p26, p27, p28, p29, p30, p31, p32, p33, p34, p35, p36, p37, p38, p39, p40, p41, p42, p43, p44, p45, p46, p47, p48, p49, p50, p51, p52, p53, p54, p55, p56] at k1 k3
          apply Ex.of
          · simp [evC, runOps, step1, wantedD, evQ, evM, setD, Opd.ev, Env.get_set, faddrQ, loadQ, binQ, binV, i64, loadD, zval, iaddrQ, asI, D.int?, elemAt, loadE, D.cells, Option.map_some, List.map, deferD, D.szOk, put, p0, p1, p2, p3, p4, p5, p6, p7, p8, p9, p10, p11, p12, p13, p14, p15, p16, p17, p18, p19, p20, p21, p22, p23, p24, p25, p26, p27, p28, p29, p30, p31, p32, p33, p34, p35, p36, p37, p38, p39, p40, p41, p42, p43, p44, p45, p46, p47, p48, p49, p50, p51, p52, p53, p54, p55, p56, d0, d1, d2, d3, d4, d5, d6, d7, d8, d9, d10, d11, d12, d13, d14, d15, d16, d17, d18, d19, d20, d21, d22, d23, d24, d25, d26, d27, d28, d29, d30, d31, d32, d33, d34, d35, d36, d37, d38, d39, d40, d41, d42, d43, d44, d45, d46, d47, d48, d49, d50, d51, d52, d53, d54, d55, d56, t0, t1, t2, t3, t4, t5, t6, t7, t8, t9, t10, t11, t12, t13, t14, t15, t16, t17, t18, t19, t20, t21, t22, t23, t24, t25, t26, t27, t28, t29, t30, t31, t32, t33, t34, t35, t36, t37, t38, t39, t40, t41, t42, t43, t44, t45, t46, t47, t48, t49, t50, t51, t52, t53, t54, t55, t56, k3]; exact ⟨rfl, rfl⟩
          refine ⟨h12', _, _, rfl, by simp [Env.get_set, p0, p1, p2, p3, p4, p5, p6, p7, p8, p9, p10, p11, p12, p13, p14, p15, p16, p17, p18, p19, p20, p21, p22, p23, p24, p25, p26, p27, p28, p29, p30, p31, p32, p33, p34, p35, p36, p37, p38, p39, p40, p41, p42, p43, p44, p45, p46, p47, p48, p49, p50, p51, p52, p53, p54, p55, p56, k1], ?_, own3⟩
          have hw : IntKind.i64.wrap ((i : Int) + 1) = (i : Int) + 1 := wrap64_of _ (by omega) (by omega)
          simp [Env.get_set, p0, p1, p2, p3, p4, p5, p6, p7, p8, p9, p10, p11, p12, p13, p14, p15, p16, p17, p18, p19, p20, p21, p22, p23, p24, p25, p26, p27, p28, p29, p30, p31, p32, p33, p34, p35, p36, p37, p38, p39, p40, p41, p42, p43, p44, p45, p46, p47, p48, p49, p50, p51, p52, p53, p54, p55, p56, i64, hw]

/-- Small comes to an end. -/
theorem small_run {v0 v1 L : Fk.D} (h0 : v0.single = true) (h1 : v1.single = true) (hL : IsSl IsTab L) {e : Env} {st : St} (he : e.get p0 = .agg [v0, v1, L])
    (hl : st.heap.length = st.hn) (hb : st.lim.base ≤ st.hn) (hc : st.lim.cbase ≤ st.hn) : Ex call pure ir15.body ⟨e, [], st⟩ SQ := by
  have hLs := hL.single
  simp only [p0, p1, p2, p3, p4, p5, p6, p7, p8, p9, p10, p11, p12, p13, p14, p15, p16, p17, p18, p19, p20, p21, p22, p23, p24, p25, p26, p27, p28, p29, p30, p31, p32, p33, p34, p35, p36, p37, p38, p39, p40, p41, p42, p43, p44, p45, p46, p47, p48, p49, p50, p51, p52, p53, p54, p55, p56] at he
  show Ex call pure (.seq (.reg false [⟨d1, .box t0, none, 3, 0, 0⟩,
  ⟨d2, .mv (.c (.bool false)), none, 0, 0, 0⟩]) (.seq (.seq (.reg false [⟨d3, .mv (.c (.int .i64 (0))), none, 0, 0, 0⟩]) (.block 0 (.loop smBody))) smFin)) ⟨e, [], st⟩ SQ
  refine Ex.seq ?_
  apply Ex.of
  · simp [evC, runOps, step1, wantedD, evQ, evM, setD, Opd.ev, Env.get_set, faddrQ, loadQ, binQ, binV, i64, loadD, zval, iaddrQ, asI, D.int?, elemAt, loadE, D.cells, Option.map_some, List.map, deferD, D.szOk, put, p0, p1, p2, p3, p4, p5, p6, p7, p8, p9, p10, p11, p12, p13, p14, p15, p16, p17, p18, p19, p20, p21, p22, p23, p24, p25, p26, p27, p28, p29, p30, p31, p32, p33, p34, p35, p36, p37, p38, p39, p40, p41, p42, p43, p44, p45, p46, p47, p48, p49, p50, p51, p52, p53, p54, p55, p56, d0, d1, d2, d3, d4, d5, d6, d7, d8, d9, d10, d11, d12, d13, d14, d15, d16, d17, d18, d19, d20, d21, d22, d23, d24, d25, d26, d27, d28, d29, d30, d31, d32, d33, d34, d35, d36, d37, d38, d39, d40, d41, d42, d43, d44, d45, d46, d47, d48, d49, d50, d51, d52, d53, d54, d55, d56, t0, t1, t2, t3, t4, t5, t6, t7, t8, t9, t10, t11, t12, t13, t14, t15, t16, t17, t18, t19, t20, t21, t22, t23, t24, t25, t26, t27, t28, t29, t30, t31, t32, t33, t34, t35, t36, t37, t38, t39, t40, t41, t42, t43, t44, t45, t46, t47, t48, t49, t50, t51, t52, t53, t54, t55, t56, he, h0, h1, hLs]; exact ⟨rfl, rfl⟩
  have own := Own.new (ds := [v0, v1, L]) hl hb hc
  refine Ex.gen (fun e => e.get p1 = .ptr st.hn 0) (by simp [Env.get_set, p0, p1, p2, p3, p4, p5, p6, p7, p8, p9, p10, p11, p12, p13, p14, p15, p16, p17, p18, p19, p20, p21, p22, p23, p24, p25, p26, p27, p28, p29, p30, p31, p32, p33, p34, p35, p36, p37, p38, p39, p40, p41, p42, p43, p44, p45, p46, p47, p48, p49, p50, p51, p52, p53, p54, p55, p56]) (fun e g1 => ?_)
  revert own
  generalize st.push (.cells [v0, v1, L]) = st1
  generalize st.hn = id at g1
  intro own
  simp only [p0, p1, p2, p3, p4, p5, p6, p7, p8, p9, p10, p11, p12, p13, p14, p15, p16, p17, p18, p19, p20, p21, p22, p23, p24, p25, p26, p27, p28, p29, p30, p31, p32, p33, p34, p35, p36, p37, p38, p39, p40, p41, p42, p43, p44, p45, p46, p47, p48, p49, p50, p51, p52, p53, p54, p55, p56] at g1
  refine Ex.seq ?_
  refine Ex.seq ?_
  apply Ex.of
  · simp [evC, runOps, step1, wantedD, evQ, evM, setD, Opd.ev, Env.get_set, faddrQ, loadQ, binQ, binV, i64, loadD, zval, iaddrQ, asI, D.int?, elemAt, loadE, D.cells, Option.map_some, List.map, deferD, D.szOk, put, p0, p1, p2, p3, p4, p5, p6, p7, p8, p9, p10, p11, p12, p13, p14, p15, p16, p17, p18, p19, p20, p21, p22, p23, p24, p25, p26, p27, p28, p29, p30, p31, p32, p33, p34, p35, p36, p37, p38, p39, p40, p41, p42, p43, p44, p45, p46, p47, p48, p49, p50, p51, p52, p53, p54, p55, p56, d0, d1, d2, d3, d4, d5, d6, d7, d8, d9, d10, d11, d12, d13, d14, d15, d16, d17, d18, d19, d20, d21, d22, d23, d24, d25, d26, d27, d28, d29, d30, d31, d32, d33, d34, d35, d36, d37, d38, d39, d40, d41, d42, d43, d44, d45, d46, d47, d48, d49, d50, d51, d52, d53, d54, d55, d56, t0, t1, t2, t3, t4, t5, t6, t7, t8, t9, t10, t11, t12, t13, t14, t15, t16, t17, t18, t19, t20, t21, t22, t23, t24, t25, t26, t27, t28, t29, t30, t31, t32, t33, t34, t35, t36, t37, t38, t39, t40, t41, t42, t43, t44, t45, t46, t47, t48, t49, t50, t51, t52, t53, t54, t55, t56]; exact ⟨rfl, rfl⟩
  refine Ex.gen (fun e => e.get p1 = .ptr id 0 ∧ e.get p3 = i64 ((0 : Nat))) ⟨by simp [Env.get_set, p0, p1, p2, p3, p4, p5, p6, p7, p8, p9, p10, p11, p12, p13, p14, p15, p16, p17, p18, p19, p20, p21, p22, p23, p24, p25, p26, p27, p28, p29, p30, p31, p32, p33, p34, p35, p36, p37, p38, p39, p40, p41, p42, p43, p44, p45, p46, p47, p48, p49, p50, p51, p52, p53, p54, p55, p56, g1], by simp [Env.get_set, p0, p1, p2, p3, p4, p5, p6, p7, p8, p9, p10, p11, p12, p13, p14, p15, p16, p17, p18, p19, p20, p21, p22, p23, p24, p25, p26, p27, p28, p29, p30, p31, p32, p33, p34, p35, p36, p37, p38, p39, p40, p41, p42, p43, p44, p45, p46, p47, p48, p49, p50, p51, p52, p53, p54, p55, p56, i64]⟩ (fun e ⟨g1, g3⟩ => ?_)
  refine Ex.block ?_
  refine Ex.loop (fun n f => ∃ (i : Nat) (e : Env) (st : St), f = ⟨e, [], st⟩ ∧ n + i = 12 ∧ e.get p1 = .ptr id 0 ∧ e.get p3 = i64 i ∧ Own st id [v0, v1, L]) ?_ 12 _ ⟨0, e, st1, rfl, rfl, g1, g3, own⟩ (by unfold LIM; omega)
  rintro n f ⟨i, e, st, rfl, hn, g1, g3, own⟩
  refine (small_round hL (by omega) g1 g3 own).mono ?_
  rintro x f' hxx
  cases x with
  | ret => exact hxx
  | nrm =>
    obtain ⟨hk, e', st', rfl, k1, k3, own'⟩ := hxx
    exact ⟨n - 1, by omega, i + 1, e', st', rfl, by omega, k1, k3, own'⟩
  | exit n =>
    obtain ⟨rfl, e', st', rfl, k1, own'⟩ := hxx
    exact small_fin hL k1 own'
end
end Go.Proofs.YtjlaccjneaomgaaGreatDoor
