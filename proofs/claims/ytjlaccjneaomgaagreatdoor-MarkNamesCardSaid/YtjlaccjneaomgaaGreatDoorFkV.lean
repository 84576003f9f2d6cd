/- Markers' names and versions: the runs of the four functions, on every number and every text. -/
import Derived.Test.YtjlaccjneaomgaaGreatDoorFkQ
namespace Go.Proofs.YtjlaccjneaomgaaGreatDoor
open Go Go.Fk Go.Lib
set_option maxRecDepth 100000
set_option linter.unusedSimpArgs false

/-- A function of one argument and one plain answer. -/
def AnsV (x : Value) (y : X) (f' : Fr) : Prop := y = .ret ∧ f'.defers = [] ∧ f'.env.get p2 = .v x
theorem ev1 {p : Prog} {k f : Nat} {fn : IFn} {a : Value} {x : Value} (ho : p.ora f = none) (hf : p.fn f = some fn) (hk : p.kind f = 0) (hp : fn.params = 1) (hr : fn.results = [.t p2]) (hx : isAggV x = false)
    (h : ∀ e : Env, e.get p0 = .v a → Ex (evF p k) p.pure fn.body ⟨e, [], .empty⟩ (AnsV x)) : evF p (k + 1) (.func (.func f) [] []) [.v a] .empty = some (.v x, .empty) := by
  refine ev0 (fn := fn) (args := [.v a]) (d := .v x) ho hf hk hp.symm rfl ((h _ rfl).mono ?_)
  rintro y f' ⟨h1, h2, h3⟩
  refine ⟨h1, h2, ?_, ?_⟩
  · rw [hr]; simp only [resAll, resD, h3]
  · cases x <;> first | rfl | cases hx

theorem ltI_f {a b : Int} (h : ¬ a < b) : ltI a b = false := by rw [ltI_eq]; simpa using h
theorem ltI_t {a b : Int} (h : a < b) : ltI a b = true := by rw [ltI_eq]; simpa using h

section
variable {k : Nat}
theorem name_body (v : Int) (e : Env) (g0 : e.get p0 = .v (.int .i64 v)) : Ex (evF prN (k + 31)) prN.pure ir8.body ⟨e, [], .empty⟩ (AnsV (.string (bsL (nmL v)))) := by
  simp only [p0] at g0
  unfold ir8
  refine Ex.seq ?_
  apply Ex.of
  · simp [evC, runOps, step1, wantedD, evQ, evM, setD, Opd.ev, Env.get_set, binQ, binV, unV, i64, loadD, zval, asI, D.int?, elems, bytesOf, lenQ, indexQ, convStrQ, D.isStr, byteD, D.cells, D.single, D.cl, D.clL, norm, normC, setAll, Option.map_some, List.map, List.all, List.length, List.replicate, deferD, D.szOk, put, eqD, veq, nilK, List.getElem?_cons_zero, List.getElem?_cons_succ, p0, p1, p2, p3, p4, p5, p6, p7, p8, p9, p10, p11, p12, p13, p14, p15, p16, p17, p18, d0, d1, d2, d3, d4, d5, d6, d7, d8, d9, d10, d11, d12, d13, d14, d15, d16, d17, d18, t0, t1, t2, t3, t4, t5, t6, t7, t8, t9, t10, t11, t12, t13, t14, t15, t16, t17, t18, g0]; exact ⟨rfl, rfl⟩
  refine Ex.seq ?_
  refine Ex.seq ?_
  by_cases h1 : v < 1
  · have l1 := ltI_t h1
    apply Ex.of
    · simp [evC, runOps, step1, wantedD, evQ, evM, setD, Opd.ev, Env.get_set, binQ, binV, unV, i64, loadD, zval, asI, D.int?, elems, bytesOf, lenQ, indexQ, convStrQ, D.isStr, byteD, D.cells, D.single, D.cl, D.clL, norm, normC, setAll, Option.map_some, List.map, List.all, List.length, List.replicate, deferD, D.szOk, put, eqD, veq, nilK, List.getElem?_cons_zero, List.getElem?_cons_succ, p0, p1, p2, p3, p4, p5, p6, p7, p8, p9, p10, p11, p12, p13, p14, p15, p16, p17, p18, d0, d1, d2, d3, d4, d5, d6, d7, d8, d9, d10, d11, d12, d13, d14, d15, d16, d17, d18, t0, t1, t2, t3, t4, t5, t6, t7, t8, t9, t10, t11, t12, t13, t14, t15, t16, t17, t18, g0, l1]; exact ⟨rfl, rfl⟩
    apply Ex.of
    · simp [evC, runOps, step1, wantedD, evQ, evM, setD, Opd.ev, Env.get_set, binQ, binV, unV, i64, loadD, zval, asI, D.int?, elems, bytesOf, lenQ, indexQ, convStrQ, D.isStr, byteD, D.cells, D.single, D.cl, D.clL, norm, normC, setAll, Option.map_some, List.map, List.all, List.length, List.replicate, deferD, D.szOk, put, eqD, veq, nilK, List.getElem?_cons_zero, List.getElem?_cons_succ, p0, p1, p2, p3, p4, p5, p6, p7, p8, p9, p10, p11, p12, p13, p14, p15, p16, p17, p18, d0, d1, d2, d3, d4, d5, d6, d7, d8, d9, d10, d11, d12, d13, d14, d15, d16, d17, d18, t0, t1, t2, t3, t4, t5, t6, t7, t8, t9, t10, t11, t12, t13, t14, t15, t16, t17, t18, g0]; exact ⟨rfl, rfl⟩
    refine ⟨rfl, rfl, ?_⟩
    simp [Env.get_set, p0, p1, p2, p3, p4, p5, p6, p7, p8, p9, p10, p11, p12, p13, p14, p15, p16, p17, p18]
    unfold nmL
    rw [if_neg (by omega)]
    rfl
  have l1 := ltI_f h1
  by_cases h2 : 1073741824 < v
  · have l2 := ltI_t h2
    apply Ex.of
    · simp [evC, runOps, step1, wantedD, evQ, evM, setD, Opd.ev, Env.get_set, binQ, binV, unV, i64, loadD, zval, asI, D.int?, elems, bytesOf, lenQ, indexQ, convStrQ, D.isStr, byteD, D.cells, D.single, D.cl, D.clL, norm, normC, setAll, Option.map_some, List.map, List.all, List.length, List.replicate, deferD, D.szOk, put, eqD, veq, nilK, List.getElem?_cons_zero, List.getElem?_cons_succ, p0, p1, p2, p3, p4, p5, p6, p7, p8, p9, p10, p11, p12, p13, p14, p15, p16, p17, p18, d0, d1, d2, d3, d4, d5, d6, d7, d8, d9, d10, d11, d12, d13, d14, d15, d16, d17, d18, t0, t1, t2, t3, t4, t5, t6, t7, t8, t9, t10, t11, t12, t13, t14, t15, t16, t17, t18, g0, l1, l2]; exact ⟨rfl, rfl⟩
    apply Ex.of
    · simp [evC, runOps, step1, wantedD, evQ, evM, setD, Opd.ev, Env.get_set, binQ, binV, unV, i64, loadD, zval, asI, D.int?, elems, bytesOf, lenQ, indexQ, convStrQ, D.isStr, byteD, D.cells, D.single, D.cl, D.clL, norm, normC, setAll, Option.map_some, List.map, List.all, List.length, List.replicate, deferD, D.szOk, put, eqD, veq, nilK, List.getElem?_cons_zero, List.getElem?_cons_succ, p0, p1, p2, p3, p4, p5, p6, p7, p8, p9, p10, p11, p12, p13, p14, p15, p16, p17, p18, d0, d1, d2, d3, d4, d5, d6, d7, d8, d9, d10, d11, d12, d13, d14, d15, d16, d17, d18, t0, t1, t2, t3, t4, t5, t6, t7, t8, t9, t10, t11, t12, t13, t14, t15, t16, t17, t18, g0]; exact ⟨rfl, rfl⟩
    refine ⟨rfl, rfl, ?_⟩
    simp [Env.get_set, p0, p1, p2, p3, p4, p5, p6, p7, p8, p9, p10, p11, p12, p13, p14, p15, p16, p17, p18]
    unfold nmL
    rw [if_neg (by omega)]
    rfl
  have l2 := ltI_f h2
  apply Ex.of
  · simp [evC, runOps, step1, wantedD, evQ, evM, setD, Opd.ev, Env.get_set, binQ, binV, unV, i64, loadD, zval, asI, D.int?, elems, bytesOf, lenQ, indexQ, convStrQ, D.isStr, byteD, D.cells, D.single, D.cl, D.clL, norm, normC, setAll, Option.map_some, List.map, List.all, List.length, List.replicate, deferD, D.szOk, put, eqD, veq, nilK, List.getElem?_cons_zero, List.getElem?_cons_succ, p0, p1, p2, p3, p4, p5, p6, p7, p8, p9, p10, p11, p12, p13, p14, p15, p16, p17, p18, d0, d1, d2, d3, d4, d5, d6, d7, d8, d9, d10, d11, d12, d13, d14, d15, d16, d17, d18, t0, t1, t2, t3, t4, t5, t6, t7, t8, t9, t10, t11, t12, t13, t14, t15, t16, t17, t18, g0, l1, l2]; exact ⟨rfl, rfl⟩
  apply Ex.of
  · simp [evC, runOps, step1, wantedD, evQ, evM, setD, Opd.ev, Env.get_set, binQ, binV, unV, i64, loadD, zval, asI, D.int?, elems, bytesOf, lenQ, indexQ, convStrQ, D.isStr, byteD, D.cells, D.single, D.cl, D.clL, norm, normC, setAll, Option.map_some, List.map, List.all, List.length, List.replicate, deferD, D.szOk, put, eqD, veq, nilK, List.getElem?_cons_zero, List.getElem?_cons_succ, p0, p1, p2, p3, p4, p5, p6, p7, p8, p9, p10, p11, p12, p13, p14, p15, p16, p17, p18, d0, d1, d2, d3, d4, d5, d6, d7, d8, d9, d10, d11, d12, d13, d14, d15, d16, d17, d18, t0, t1, t2, t3, t4, t5, t6, t7, t8, t9, t10, t11, t12, t13, t14, t15, t16, t17, t18, g0]; exact ⟨rfl, rfl⟩
  refine Ex.seq ?_
  obtain ⟨n, rfl⟩ : ∃ n : Nat, v = n := ⟨v.toNat, by omega⟩
  have c29 := call29 (k := k + 30) (n : Int) (by omega) (by omega)
  have pu29 := pu 29 (by kernel_rfl)
  have pu30 := pu 30 (by kernel_rfl)
  have e1 : itoa (n : Int) = decDigits n := itoa_nonneg n
  have hlen : 1 ≤ (decDigits n).length ∧ (decDigits n).length ≤ 10 := by
    have a := decDigits_length n
    have b := congrArg List.length (digs_pad 9 n (by omega))
    rw [digs_length] at b
    have := nDigits_pos n
    simp at b
    omega
  rw [e1] at c29
  apply Ex.of
  · simp [evC, runOps, step1, wantedD, evQ, evM, setD, Opd.ev, Env.get_set, binQ, binV, unV, i64, loadD, zval, asI, D.int?, elems, bytesOf, lenQ, indexQ, convStrQ, D.isStr, byteD, D.cells, D.single, D.cl, D.clL, norm, normC, setAll, Option.map_some, List.map, List.all, List.length, List.replicate, deferD, D.szOk, put, eqD, veq, nilK, List.getElem?_cons_zero, List.getElem?_cons_succ, p0, p1, p2, p3, p4, p5, p6, p7, p8, p9, p10, p11, p12, p13, p14, p15, p16, p17, p18, d0, d1, d2, d3, d4, d5, d6, d7, d8, d9, d10, d11, d12, d13, d14, d15, d16, d17, d18, t0, t1, t2, t3, t4, t5, t6, t7, t8, t9, t10, t11, t12, t13, t14, t15, t16, t17, t18, g0, c29, pu29]; exact ⟨rfl, rfl⟩
  have c30 := call30 (k := k + 1) (decDigits n).length hlen.1 hlen.2
  have z1 : (bsN [118, 47]).size + (bsL (List.replicate (10 - (decDigits n).length) 48)).size ≤ 1099511627776 := by rw [bsL_size]; simp; show 2 + _ ≤ _; omega
  have z2 : (bsN [118, 47]).size + (bsL (List.replicate (10 - (decDigits n).length) 48)).size + (bsL (decDigits n)).size ≤ 1099511627776 := by rw [bsL_size, bsL_size]; simp; show 2 + _ + _ ≤ _; omega
  have z0 : ((bsL (decDigits n)).size : Int) = ((decDigits n).length : Int) := rfl
  refine Ex.seq ?_
  apply Ex.of
  · simp [evC, runOps, step1, wantedD, evQ, evM, setD, Opd.ev, Env.get_set, binQ, binV, unV, i64, loadD, zval, asI, D.int?, elems, bytesOf, lenQ, indexQ, convStrQ, D.isStr, byteD, D.cells, D.single, D.cl, D.clL, norm, normC, setAll, Option.map_some, List.map, List.all, List.length, List.replicate, deferD, D.szOk, put, eqD, veq, nilK, List.getElem?_cons_zero, List.getElem?_cons_succ, p0, p1, p2, p3, p4, p5, p6, p7, p8, p9, p10, p11, p12, p13, p14, p15, p16, p17, p18, d0, d1, d2, d3, d4, d5, d6, d7, d8, d9, d10, d11, d12, d13, d14, d15, d16, d17, d18, t0, t1, t2, t3, t4, t5, t6, t7, t8, t9, t10, t11, t12, t13, t14, t15, t16, t17, t18, z0, c30, pu30, z1, z2]; exact ⟨rfl, rfl⟩
  refine Ex.ret ⟨rfl, rfl, ?_⟩
  simp [Env.get_set, p0, p1, p2, p3, p4, p5, p6, p7, p8, p9, p10, p11, p12, p13, p14, p15, p16, p17, p18]
  rw [show bsN [118, 47] = bsL [118, 47] from rfl, bsL_append, bsL_append]
  congr 1
  unfold nmL
  rw [if_pos (by omega)]
  simp [digs10_pad n (by omega)]
theorem run_name (v : Int) : evF prN (k + 32) (.func (.func 8) [] []) [.v (.int .i64 v)] .empty = some (.v (.string (bsL (nmL v))), .empty) :=
  ev1 (fn := ir8) (by kernel_rfl) (by kernel_rfl) (by kernel_rfl) rfl rfl rfl fun e g => name_body v e g

theorem rname_body (v : Int) (e : Env) (g0 : e.get p0 = .v (.int .i64 v)) : Ex (evF prN k) prN.pure ir10.body ⟨e, [], .empty⟩ (AnsV (.string (bsL (nmL v)))) := by
  simp only [p0] at g0
  unfold ir10
  refine Ex.seq ?_
  apply Ex.of
  · simp [evC, runOps, step1, wantedD, evQ, evM, setD, Opd.ev, Env.get_set, binQ, binV, unV, i64, loadD, zval, asI, D.int?, elems, bytesOf, lenQ, indexQ, convStrQ, D.isStr, byteD, D.cells, D.single, D.cl, D.clL, norm, normC, setAll, Option.map_some, List.map, List.all, List.length, List.replicate, deferD, D.szOk, put, eqD, veq, nilK, List.getElem?_cons_zero, List.getElem?_cons_succ, p0, p1, p2, p3, p4, p5, p6, p7, p8, p9, p10, p11, p12, p13, p14, p15, p16, p17, p18, d0, d1, d2, d3, d4, d5, d6, d7, d8, d9, d10, d11, d12, d13, d14, d15, d16, d17, d18, t0, t1, t2, t3, t4, t5, t6, t7, t8, t9, t10, t11, t12, t13, t14, t15, t16, t17, t18, g0]; exact ⟨rfl, rfl⟩
  refine Ex.seq ?_
  refine Ex.seq ?_
  by_cases h1 : v < 1
  · have l1 := ltI_t h1
    apply Ex.of
    · simp [evC, runOps, step1, wantedD, evQ, evM, setD, Opd.ev, Env.get_set, binQ, binV, unV, i64, loadD, zval, asI, D.int?, elems, bytesOf, lenQ, indexQ, convStrQ, D.isStr, byteD, D.cells, D.single, D.cl, D.clL, norm, normC, setAll, Option.map_some, List.map, List.all, List.length, List.replicate, deferD, D.szOk, put, eqD, veq, nilK, List.getElem?_cons_zero, List.getElem?_cons_succ, p0, p1, p2, p3, p4, p5, p6, p7, p8, p9, p10, p11, p12, p13, p14, p15, p16, p17, p18, d0, d1, d2, d3, d4, d5, d6, d7, d8, d9, d10, d11, d12, d13, d14, d15, d16, d17, d18, t0, t1, t2, t3, t4, t5, t6, t7, t8, t9, t10, t11, t12, t13, t14, t15, t16, t17, t18, g0, l1]; exact ⟨rfl, rfl⟩
    apply Ex.of
    · simp [evC, runOps, step1, wantedD, evQ, evM, setD, Opd.ev, Env.get_set, binQ, binV, unV, i64, loadD, zval, asI, D.int?, elems, bytesOf, lenQ, indexQ, convStrQ, D.isStr, byteD, D.cells, D.single, D.cl, D.clL, norm, normC, setAll, Option.map_some, List.map, List.all, List.length, List.replicate, deferD, D.szOk, put, eqD, veq, nilK, List.getElem?_cons_zero, List.getElem?_cons_succ, p0, p1, p2, p3, p4, p5, p6, p7, p8, p9, p10, p11, p12, p13, p14, p15, p16, p17, p18, d0, d1, d2, d3, d4, d5, d6, d7, d8, d9, d10, d11, d12, d13, d14, d15, d16, d17, d18, t0, t1, t2, t3, t4, t5, t6, t7, t8, t9, t10, t11, t12, t13, t14, t15, t16, t17, t18, g0]; exact ⟨rfl, rfl⟩
    refine ⟨rfl, rfl, ?_⟩
    simp [Env.get_set, p0, p1, p2, p3, p4, p5, p6, p7, p8, p9, p10, p11, p12, p13, p14, p15, p16, p17, p18]
    unfold nmL
    rw [if_neg (by omega)]
    rfl
  have l1 := ltI_f h1
  by_cases h2 : 1073741824 < v
  · have l2 := ltI_t h2
    apply Ex.of
    · simp [evC, runOps, step1, wantedD, evQ, evM, setD, Opd.ev, Env.get_set, binQ, binV, unV, i64, loadD, zval, asI, D.int?, elems, bytesOf, lenQ, indexQ, convStrQ, D.isStr, byteD, D.cells, D.single, D.cl, D.clL, norm, normC, setAll, Option.map_some, List.map, List.all, List.length, List.replicate, deferD, D.szOk, put, eqD, veq, nilK, List.getElem?_cons_zero, List.getElem?_cons_succ, p0, p1, p2, p3, p4, p5, p6, p7, p8, p9, p10, p11, p12, p13, p14, p15, p16, p17, p18, d0, d1, d2, d3, d4, d5, d6, d7, d8, d9, d10, d11, d12, d13, d14, d15, d16, d17, d18, t0, t1, t2, t3, t4, t5, t6, t7, t8, t9, t10, t11, t12, t13, t14, t15, t16, t17, t18, g0, l1, l2]; exact ⟨rfl, rfl⟩
    apply Ex.of
    · simp [evC, runOps, step1, wantedD, evQ, evM, setD, Opd.ev, Env.get_set, binQ, binV, unV, i64, loadD, zval, asI, D.int?, elems, bytesOf, lenQ, indexQ, convStrQ, D.isStr, byteD, D.cells, D.single, D.cl, D.clL, norm, normC, setAll, Option.map_some, List.map, List.all, List.length, List.replicate, deferD, D.szOk, put, eqD, veq, nilK, List.getElem?_cons_zero, List.getElem?_cons_succ, p0, p1, p2, p3, p4, p5, p6, p7, p8, p9, p10, p11, p12, p13, p14, p15, p16, p17, p18, d0, d1, d2, d3, d4, d5, d6, d7, d8, d9, d10, d11, d12, d13, d14, d15, d16, d17, d18, t0, t1, t2, t3, t4, t5, t6, t7, t8, t9, t10, t11, t12, t13, t14, t15, t16, t17, t18, g0]; exact ⟨rfl, rfl⟩
    refine ⟨rfl, rfl, ?_⟩
    simp [Env.get_set, p0, p1, p2, p3, p4, p5, p6, p7, p8, p9, p10, p11, p12, p13, p14, p15, p16, p17, p18]
    unfold nmL
    rw [if_neg (by omega)]
    rfl
  have l2 := ltI_f h2
  apply Ex.of
  · simp [evC, runOps, step1, wantedD, evQ, evM, setD, Opd.ev, Env.get_set, binQ, binV, unV, i64, loadD, zval, asI, D.int?, elems, bytesOf, lenQ, indexQ, convStrQ, D.isStr, byteD, D.cells, D.single, D.cl, D.clL, norm, normC, setAll, Option.map_some, List.map, List.all, List.length, List.replicate, deferD, D.szOk, put, eqD, veq, nilK, List.getElem?_cons_zero, List.getElem?_cons_succ, p0, p1, p2, p3, p4, p5, p6, p7, p8, p9, p10, p11, p12, p13, p14, p15, p16, p17, p18, d0, d1, d2, d3, d4, d5, d6, d7, d8, d9, d10, d11, d12, d13, d14, d15, d16, d17, d18, t0, t1, t2, t3, t4, t5, t6, t7, t8, t9, t10, t11, t12, t13, t14, t15, t16, t17, t18, g0, l1, l2]; exact ⟨rfl, rfl⟩
  apply Ex.of
  · simp [evC, runOps, step1, wantedD, evQ, evM, setD, Opd.ev, Env.get_set, binQ, binV, unV, i64, loadD, zval, asI, D.int?, elems, bytesOf, lenQ, indexQ, convStrQ, D.isStr, byteD, D.cells, D.single, D.cl, D.clL, norm, normC, setAll, Option.map_some, List.map, List.all, List.length, List.replicate, deferD, D.szOk, put, eqD, veq, nilK, List.getElem?_cons_zero, List.getElem?_cons_succ, p0, p1, p2, p3, p4, p5, p6, p7, p8, p9, p10, p11, p12, p13, p14, p15, p16, p17, p18, d0, d1, d2, d3, d4, d5, d6, d7, d8, d9, d10, d11, d12, d13, d14, d15, d16, d17, d18, t0, t1, t2, t3, t4, t5, t6, t7, t8, t9, t10, t11, t12, t13, t14, t15, t16, t17, t18, g0]; exact ⟨rfl, rfl⟩
  obtain ⟨N, rfl⟩ : ∃ n : Nat, v = n := ⟨v.toNat, by omega⟩
  refine Ex.seq ?_
  apply Ex.of
  · simp [evC, runOps, step1, wantedD, evQ, evM, setD, Opd.ev, Env.get_set, binQ, binV, unV, i64, loadD, zval, asI, D.int?, elems, bytesOf, lenQ, indexQ, convStrQ, D.isStr, byteD, D.cells, D.single, D.cl, D.clL, norm, normC, setAll, Option.map_some, List.map, List.all, List.length, List.replicate, deferD, D.szOk, put, eqD, veq, nilK, List.getElem?_cons_zero, List.getElem?_cons_succ, p0, p1, p2, p3, p4, p5, p6, p7, p8, p9, p10, p11, p12, p13, p14, p15, p16, p17, p18, d0, d1, d2, d3, d4, d5, d6, d7, d8, d9, d10, d11, d12, d13, d14, d15, d16, d17, d18, t0, t1, t2, t3, t4, t5, t6, t7, t8, t9, t10, t11, t12, t13, t14, t15, t16, t17, t18, g0]; exact ⟨rfl, rfl⟩
  refine Ex.seq ?_
  refine Ex.seq ?_
  apply Ex.of
  · simp [evC, runOps, step1, wantedD, evQ, evM, setD, Opd.ev, Env.get_set, binQ, binV, unV, i64, loadD, zval, asI, D.int?, elems, bytesOf, lenQ, indexQ, convStrQ, D.isStr, byteD, D.cells, D.single, D.cl, D.clL, norm, normC, setAll, Option.map_some, List.map, List.all, List.length, List.replicate, deferD, D.szOk, put, eqD, veq, nilK, List.getElem?_cons_zero, List.getElem?_cons_succ, p0, p1, p2, p3, p4, p5, p6, p7, p8, p9, p10, p11, p12, p13, p14, p15, p16, p17, p18, d0, d1, d2, d3, d4, d5, d6, d7, d8, d9, d10, d11, d12, d13, d14, d15, d16, d17, d18, t0, t1, t2, t3, t4, t5, t6, t7, t8, t9, t10, t11, t12, t13, t14, t15, t16, t17, t18, g0]; exact ⟨rfl, rfl⟩
  refine Ex.block ?_
  refine Ex.loop (fun m f => ∃ (e : Env) (i n : Nat) (l : List UInt8), m = 10 - i ∧ i ≤ 10 ∧ f = ⟨e, [], .empty⟩ ∧ e.get .h = .v (.int .i64 n) ∧ e.get p3 = .v (.string (bsL l)) ∧ e.get p4 = .v (.int .i64 i) ∧ digs 10 N [] = digs (10 - i) n l ∧ l.length = i ∧ n ≤ 1073741824) ?_ 10 _ ?_ (by decide)
  · rintro m f ⟨e, i, n, l, rfl, hi, rfl, g0, g3, g4, hd, hl, hn⟩
    simp only [p3, p4] at g3 g4
    refine Ex.seq ?_
    refine Ex.seq ?_
    apply Ex.of
    · simp [evC, runOps, step1, wantedD, evQ, evM, setD, Opd.ev, Env.get_set, binQ, binV, unV, i64, loadD, zval, asI, D.int?, elems, bytesOf, lenQ, indexQ, convStrQ, D.isStr, byteD, D.cells, D.single, D.cl, D.clL, norm, normC, setAll, Option.map_some, List.map, List.all, List.length, List.replicate, deferD, D.szOk, put, eqD, veq, nilK, List.getElem?_cons_zero, List.getElem?_cons_succ, p0, p1, p2, p3, p4, p5, p6, p7, p8, p9, p10, p11, p12, p13, p14, p15, p16, p17, p18, p19, p20, p21, p22, p23, p24, p25, p26, d0, d1, d2, d3, d4, d5, d6, d7, d8, d9, d10, d11, d12, d13, d14, d15, d16, d17, d18, d19, d20, d21, d22, d23, d24, d25, d26, t0, t1, t2, t3, t4, t5, t6, t7, t8, t9, t10, t11, t12, t13, t14, t15, t16, t17, t18, t19, t20, t21, t22, t23, t24, t25, t26, g0, g3, g4]; exact ⟨rfl, rfl⟩
    refine Ex.cond (t := ltI i 10) (by simp [Opd.ev, Env.get_set, t12, p0, p1, p2, p3, p4, p5, p6, p7, p8, p9, p10, p11, p12, p13, p14, p15, p16, p17, p18, p19, p20, p21, p22, p23, p24, p25, p26]) ?_
    by_cases h : i < 10
    · rw [ltI_t (by omega), if_pos rfl]
      have hm : (n : Int).tmod 10 = (n : Int) % 10 := Int.tmod_eq_emod_of_nonneg (by omega)
      have hq : (n : Int).tdiv 10 = (n : Int) / 10 := Int.tdiv_eq_ediv_of_nonneg (by omega)
      have w1 : IntKind.i64.wrap (48 + (n : Int) % 10) = 48 + (n : Int) % 10 := wrap64_of _ (by omega) (by omega)
      have w2 : IntKind.u8.wrap (48 + (n : Int) % 10) = 48 + (n : Int) % 10 := by simp [IntKind.wrap, IntKind.bits, IntKind.signed]; omega
      have w3 : IntKind.i64.wrap ((n : Int) / 10) = (n : Int) / 10 := wrap64_of _ (by omega) (by omega)
      have w4 : IntKind.i64.wrap ((i : Int) + 1) = (i : Int) + 1 := wrap64_of _ (by omega) (by omega)
      obtain ⟨c, hc⟩ : ∃ c, c = UInt8.ofNat (48 + n % 10) := ⟨_, rfl⟩
      have hb : (ByteArray.mk #[UInt8.ofNat (48 + (n : Int) % 10).toNat]) = bsL [c] := by
        have : (48 + (n : Int) % 10).toNat = 48 + n % 10 := by omega
        rw [this, hc]; rfl
      have z1 : (bsL [c]).size + (bsL l).size ≤ 1099511627776 := by rw [bsL_size, bsL_size]; simp; omega
      refine Ex.skip ?_
      refine Ex.seq ?_
      refine Ex.block ?_
      refine Ex.seq ?_
      apply Ex.of
      · simp [evC, runOps, step1, wantedD, evQ, evM, setD, Opd.ev, Env.get_set, binQ, binV, unV, i64, loadD, zval, asI, D.int?, elems, bytesOf, lenQ, indexQ, convStrQ, D.isStr, byteD, D.cells, D.single, D.cl, D.clL, norm, normC, setAll, Option.map_some, List.map, List.all, List.length, List.replicate, deferD, D.szOk, put, eqD, veq, nilK, List.getElem?_cons_zero, List.getElem?_cons_succ, p0, p1, p2, p3, p4, p5, p6, p7, p8, p9, p10, p11, p12, p13, p14, p15, p16, p17, p18, p19, p20, p21, p22, p23, p24, p25, p26, d0, d1, d2, d3, d4, d5, d6, d7, d8, d9, d10, d11, d12, d13, d14, d15, d16, d17, d18, d19, d20, d21, d22, d23, d24, d25, d26, t0, t1, t2, t3, t4, t5, t6, t7, t8, t9, t10, t11, t12, t13, t14, t15, t16, t17, t18, t19, t20, t21, t22, t23, t24, t25, t26, g0, g3, g4, hm, w1, w2, hb, z1]; exact ⟨rfl, rfl⟩
      apply Ex.of
      · simp [evC, runOps, step1, wantedD, evQ, evM, setD, Opd.ev, Env.get_set, binQ, binV, unV, i64, loadD, zval, asI, D.int?, elems, bytesOf, lenQ, indexQ, convStrQ, D.isStr, byteD, D.cells, D.single, D.cl, D.clL, norm, normC, setAll, Option.map_some, List.map, List.all, List.length, List.replicate, deferD, D.szOk, put, eqD, veq, nilK, List.getElem?_cons_zero, List.getElem?_cons_succ, p0, p1, p2, p3, p4, p5, p6, p7, p8, p9, p10, p11, p12, p13, p14, p15, p16, p17, p18, p19, p20, p21, p22, p23, p24, p25, p26, d0, d1, d2, d3, d4, d5, d6, d7, d8, d9, d10, d11, d12, d13, d14, d15, d16, d17, d18, d19, d20, d21, d22, d23, d24, d25, d26, t0, t1, t2, t3, t4, t5, t6, t7, t8, t9, t10, t11, t12, t13, t14, t15, t16, t17, t18, t19, t20, t21, t22, t23, t24, t25, t26, g0, g3, g4, hq, w3]; exact ⟨rfl, rfl⟩
      apply Ex.of
      · simp [evC, runOps, step1, wantedD, evQ, evM, setD, Opd.ev, Env.get_set, binQ, binV, unV, i64, loadD, zval, asI, D.int?, elems, bytesOf, lenQ, indexQ, convStrQ, D.isStr, byteD, D.cells, D.single, D.cl, D.clL, norm, normC, setAll, Option.map_some, List.map, List.all, List.length, List.replicate, deferD, D.szOk, put, eqD, veq, nilK, List.getElem?_cons_zero, List.getElem?_cons_succ, p0, p1, p2, p3, p4, p5, p6, p7, p8, p9, p10, p11, p12, p13, p14, p15, p16, p17, p18, p19, p20, p21, p22, p23, p24, p25, p26, d0, d1, d2, d3, d4, d5, d6, d7, d8, d9, d10, d11, d12, d13, d14, d15, d16, d17, d18, d19, d20, d21, d22, d23, d24, d25, d26, t0, t1, t2, t3, t4, t5, t6, t7, t8, t9, t10, t11, t12, t13, t14, t15, t16, t17, t18, t19, t20, t21, t22, t23, t24, t25, t26, g0, g3, g4, w4]; exact ⟨rfl, rfl⟩
      refine ⟨10 - (i + 1), by omega, _, i + 1, n / 10, c :: l, rfl, h, rfl, ?_, ?_, ?_, ?_, by simp [hl], by omega⟩
      · simp [Env.get_set, p0, p1, p2, p3, p4, p5, p6, p7, p8, p9, p10, p11, p12, p13, p14, p15, p16, p17, p18, p19, p20, p21, p22, p23, p24, p25, p26]
      · simp [Env.get_set, p0, p1, p2, p3, p4, p5, p6, p7, p8, p9, p10, p11, p12, p13, p14, p15, p16, p17, p18, p19, p20, p21, p22, p23, p24, p25, p26]
        rw [bsL_append]; rfl
      · simp [Env.get_set, p0, p1, p2, p3, p4, p5, p6, p7, p8, p9, p10, p11, p12, p13, p14, p15, p16, p17, p18, p19, p20, p21, p22, p23, p24, p25, p26]
      · rw [hd, show 10 - i = (10 - (i + 1)) + 1 by omega, hc]; rfl
    · rw [ltI_f (by omega), if_neg (by decide)]
      refine Ex.exit ?_
      have hi' : i = 10 := by omega
      subst hi'
      have hd' : l = digs 10 N [] := hd.symm
      subst hd'
      simp only [if_true]
      refine Ex.seq ?_
      have z1 : (bsN [118, 47]).size + (bsL (digs 10 N [])).size ≤ 1099511627776 := by rw [bsL_size]; show 2 + _ ≤ _; omega
      apply Ex.of
      · simp [evC, runOps, step1, wantedD, evQ, evM, setD, Opd.ev, Env.get_set, binQ, binV, unV, i64, loadD, zval, asI, D.int?, elems, bytesOf, lenQ, indexQ, convStrQ, D.isStr, byteD, D.cells, D.single, D.cl, D.clL, norm, normC, setAll, Option.map_some, List.map, List.all, List.length, List.replicate, deferD, D.szOk, put, eqD, veq, nilK, List.getElem?_cons_zero, List.getElem?_cons_succ, p0, p1, p2, p3, p4, p5, p6, p7, p8, p9, p10, p11, p12, p13, p14, p15, p16, p17, p18, p19, p20, p21, p22, p23, p24, p25, p26, d0, d1, d2, d3, d4, d5, d6, d7, d8, d9, d10, d11, d12, d13, d14, d15, d16, d17, d18, d19, d20, d21, d22, d23, d24, d25, d26, t0, t1, t2, t3, t4, t5, t6, t7, t8, t9, t10, t11, t12, t13, t14, t15, t16, t17, t18, t19, t20, t21, t22, t23, t24, t25, t26, g0, g3, g4, z1]; exact ⟨rfl, rfl⟩
      refine Ex.ret ⟨rfl, rfl, ?_⟩
      simp [Env.get_set, p0, p1, p2, p3, p4, p5, p6, p7, p8, p9, p10, p11, p12, p13, p14, p15, p16, p17, p18, p19, p20, p21, p22, p23, p24, p25, p26]
      rw [show bsN [118, 47] = bsL [118, 47] from rfl, bsL_append]
      congr 1
      unfold nmL
      rw [if_pos (by omega)]
      rfl
  · refine ⟨_, 0, N, [], rfl, by omega, rfl, ?_, ?_, ?_, rfl, rfl, by omega⟩
    · simp [Env.get_set, p0, p1, p2, p3, p4, p5, p6, p7, p8, p9, p10, p11, p12, p13, p14, p15, p16, p17, p18, p19, p20, p21, p22, p23, p24, p25, p26, g0]
    · simp [Env.get_set, p0, p1, p2, p3, p4, p5, p6, p7, p8, p9, p10, p11, p12, p13, p14, p15, p16, p17, p18, p19, p20, p21, p22, p23, p24, p25, p26]; rfl
    · simp [Env.get_set, p0, p1, p2, p3, p4, p5, p6, p7, p8, p9, p10, p11, p12, p13, p14, p15, p16, p17, p18, p19, p20, p21, p22, p23, p24, p25, p26]
theorem run_rname (v : Int) : evF prN (k + 1) (.func (.func 10) [] []) [.v (.int .i64 v)] .empty = some (.v (.string (bsL (nmL v))), .empty) :=
  ev1 (fn := ir10) (by kernel_rfl) (by kernel_rfl) (by kernel_rfl) rfl rfl rfl fun e g => rname_body v e g
end
end Go.Proofs.YtjlaccjneaomgaaGreatDoor
