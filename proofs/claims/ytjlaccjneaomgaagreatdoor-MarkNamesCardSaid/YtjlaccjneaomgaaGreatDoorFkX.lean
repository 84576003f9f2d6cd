/- Markers' versions: the program's, and the document's, on every text. -/
import Derived.Test.YtjlaccjneaomgaaGreatDoorFkV
namespace Go.Proofs.YtjlaccjneaomgaaGreatDoor
open Go Go.Fk Go.Lib
set_option maxRecDepth 100000
set_option linter.unusedSimpArgs false

def AnsV2 (x z : Value) (y : X) (f' : Fr) : Prop := y = .ret ∧ f'.defers = [] ∧ f'.env.get p2 = .v x ∧ f'.env.get p3 = .v z
theorem ev2 {p : Prog} {k f : Nat} {fn : IFn} {a : Value} {n : Int} {b : Bool} (ho : p.ora f = none) (hf : p.fn f = some fn) (hk : p.kind f = 0) (hp : fn.params = 1) (hr : fn.results = [.t p2, .t p3])
    (h : ∀ e : Env, e.get p0 = .v a → Ex (evF p k) p.pure fn.body ⟨e, [], .empty⟩ (AnsV2 (.int .i64 n) (.bool b))) : evF p (k + 1) (.func (.func f) [] []) [.v a] .empty = some (.tup [.v (.int .i64 n), .v (.bool b)], .empty) := by
  refine ev0 (fn := fn) (args := [.v a]) (d := .tup [.v (.int .i64 n), .v (.bool b)]) ho hf hk hp.symm rfl ((h _ rfl).mono ?_)
  rintro y f' ⟨h1, h2, h3, h4⟩
  refine ⟨h1, h2, ?_, rfl⟩
  rw [hr]; simp only [resAll, resD, h3, h4]

/-- What mark.Version answers. -/
def verL (l : List UInt8) : Int × Bool := match atoiAll (trimLeftB (trimPrefix l [118, 47]) 48) with
  | .ok n => if nmL n = l ∧ l ≠ [] then (n, true) else (0, false)
  | _ => (0, false)

theorem trim_length (l : List UInt8) : (trimLeftB (trimPrefix l [118, 47]) 48).length ≤ l.length := by
  refine Nat.le_trans (m := (trimPrefix l [118, 47]).length) ?_ ?_
  · unfold trimLeftB; exact List.Sublist.length_le (List.dropWhile_sublist _)
  · unfold trimPrefix; split
    · simp
    · exact Nat.le_refl _

theorem beq_data {l : List UInt8} {b : ByteArray} : ((bsL l).data == b.data) = decide (l = b.data.toList) := by
  rw [Bool.eq_iff_iff]
  simp only [beq_iff_eq, decide_eq_true_eq]
  constructor
  · intro h; rw [← h]; rfl
  · rintro rfl; rfl
theorem beq_nil {b : ByteArray} : (b.data == (bsN []).data) = decide (b.data.toList = []) := by
  rw [Bool.eq_iff_iff]
  simp only [beq_iff_eq, decide_eq_true_eq]
  constructor
  · intro h; rw [h]; rfl
  · intro h; exact Array.toList_inj.1 (h.trans rfl)

section
variable {k : Nat}
theorem vers_body (b : ByteArray) (hb : b.size ≤ 1000) (e : Env) (g0 : e.get p0 = .v (.string b)) : Ex (evF prN (k + 40)) prN.pure ir9.body ⟨e, [], .empty⟩ (AnsV2 (.int .i64 (verL b.data.toList).1) (.bool (verL b.data.toList).2)) := by
  simp only [p0] at g0
  unfold ir9
  have pu31 := pu 31 (by kernel_rfl)
  have pu32 := pu 32 (by kernel_rfl)
  have pu33 := pu 33 (by kernel_rfl)
  have pu8 := pu 8 (by kernel_rfl)
  obtain ⟨u1, hu1, c33⟩ : ∃ u1, u1 = bsL (trimPrefix b.data.toList [118, 47]) ∧ evF prN (k + 40) (.func (.func 33) [] []) [.v (.string b), .v (.string (bsN [118, 47]))] .empty = some (.v (.string u1), .empty) := ⟨_, rfl, call33 (k := k + 39) _ _⟩
  obtain ⟨u2, hu2, c32⟩ : ∃ u2, u2 = bsL (trimLeftB u1.data.toList 48) ∧ evF prN (k + 40) (.func (.func 32) [] []) [.v (.string u1), .v (.string (bsN [48]))] .empty = some (.v (.string u2), .empty) := ⟨_, rfl, call32 (k := k + 39) _⟩
  have hl : u2.data.toList = trimLeftB (trimPrefix b.data.toList [118, 47]) 48 := by rw [hu2, hu1]; rfl
  have c31 := call31 (k := k + 39) u2 (by
    have := trim_length b.data.toList
    rw [← hl] at this
    have e1 : u2.size = u2.data.toList.length := by simp
    have e2 : b.size = b.data.toList.length := by simp
    omega)
  rw [hl] at c31
  refine Ex.seq ?_
  apply Ex.of
  · simp [evC, runOps, step1, wantedD, evQ, evM, setD, Opd.ev, Env.get_set, binQ, binV, unV, i64, loadD, zval, asI, D.int?, elems, bytesOf, lenQ, indexQ, convStrQ, D.isStr, byteD, D.cells, D.single, D.cl, D.clL, norm, normC, setAll, Option.map_some, List.map, List.all, List.length, List.replicate, deferD, D.szOk, put, eqD, veq, nilK, List.getElem?_cons_zero, List.getElem?_cons_succ, p0, p1, p2, p3, p4, p5, p6, p7, p8, p9, p10, p11, p12, p13, p14, p15, p16, p17, p18, p19, p20, p21, p22, p23, p24, p25, d0, d1, d2, d3, d4, d5, d6, d7, d8, d9, d10, d11, d12, d13, d14, d15, d16, d17, d18, d19, d20, d21, d22, d23, d24, d25, t0, t1, t2, t3, t4, t5, t6, t7, t8, t9, t10, t11, t12, t13, t14, t15, t16, t17, t18, t19, t20, t21, t22, t23, t24, t25, g0]; exact ⟨rfl, rfl⟩
  refine Ex.seq ?_
  cases ha : atoiAll (trimLeftB (trimPrefix b.data.toList [118, 47]) 48) with
  | ok n =>
    rw [ha] at c31
    simp only at c31
    apply Ex.of
    · simp [evC, runOps, step1, wantedD, evQ, evM, setD, Opd.ev, Env.get_set, binQ, binV, unV, i64, loadD, zval, asI, D.int?, elems, bytesOf, lenQ, indexQ, convStrQ, D.isStr, byteD, D.cells, D.single, D.cl, D.clL, norm, normC, setAll, Option.map_some, List.map, List.all, List.length, List.replicate, deferD, D.szOk, put, eqD, veq, nilK, List.getElem?_cons_zero, List.getElem?_cons_succ, p0, p1, p2, p3, p4, p5, p6, p7, p8, p9, p10, p11, p12, p13, p14, p15, p16, p17, p18, p19, p20, p21, p22, p23, p24, p25, d0, d1, d2, d3, d4, d5, d6, d7, d8, d9, d10, d11, d12, d13, d14, d15, d16, d17, d18, d19, d20, d21, d22, d23, d24, d25, t0, t1, t2, t3, t4, t5, t6, t7, t8, t9, t10, t11, t12, t13, t14, t15, t16, t17, t18, t19, t20, t21, t22, t23, t24, t25, g0, c33, c32, c31, pu31, pu32, pu33]; exact ⟨rfl, rfl⟩
    have c8 := run_name (k := k + 8) n
    refine Ex.seq ?_
    refine Ex.seq ?_
    by_cases h1 : nmL n = b.data.toList
    · have q1 : ((bsL (nmL n)).data == b.data) = true := by rw [beq_data]; simpa using h1
      by_cases h2 : b.data.toList = []
      · rw [show verL b.data.toList = (0, false) by unfold verL; rw [ha]; exact if_neg (fun h => h.2 h2)]
        have q2 : (b.data == (bsN []).data) = true := by rw [beq_nil]; simpa using h2
        apply Ex.of
        · simp [evC, runOps, step1, wantedD, evQ, evM, setD, Opd.ev, Env.get_set, binQ, binV, unV, i64, loadD, zval, asI, D.int?, elems, bytesOf, lenQ, indexQ, convStrQ, D.isStr, byteD, D.cells, D.single, D.cl, D.clL, norm, normC, setAll, Option.map_some, List.map, List.all, List.length, List.replicate, deferD, D.szOk, put, eqD, veq, nilK, List.getElem?_cons_zero, List.getElem?_cons_succ, p0, p1, p2, p3, p4, p5, p6, p7, p8, p9, p10, p11, p12, p13, p14, p15, p16, p17, p18, p19, p20, p21, p22, p23, p24, p25, d0, d1, d2, d3, d4, d5, d6, d7, d8, d9, d10, d11, d12, d13, d14, d15, d16, d17, d18, d19, d20, d21, d22, d23, d24, d25, t0, t1, t2, t3, t4, t5, t6, t7, t8, t9, t10, t11, t12, t13, t14, t15, t16, t17, t18, t19, t20, t21, t22, t23, t24, t25, g0, c8, pu8, q1, q2]; exact ⟨rfl, rfl⟩
        apply Ex.of
        · simp [evC, runOps, step1, wantedD, evQ, evM, setD, Opd.ev, Env.get_set, binQ, binV, unV, i64, loadD, zval, asI, D.int?, elems, bytesOf, lenQ, indexQ, convStrQ, D.isStr, byteD, D.cells, D.single, D.cl, D.clL, norm, normC, setAll, Option.map_some, List.map, List.all, List.length, List.replicate, deferD, D.szOk, put, eqD, veq, nilK, List.getElem?_cons_zero, List.getElem?_cons_succ, p0, p1, p2, p3, p4, p5, p6, p7, p8, p9, p10, p11, p12, p13, p14, p15, p16, p17, p18, p19, p20, p21, p22, p23, p24, p25, d0, d1, d2, d3, d4, d5, d6, d7, d8, d9, d10, d11, d12, d13, d14, d15, d16, d17, d18, d19, d20, d21, d22, d23, d24, d25, t0, t1, t2, t3, t4, t5, t6, t7, t8, t9, t10, t11, t12, t13, t14, t15, t16, t17, t18, t19, t20, t21, t22, t23, t24, t25, g0]; exact ⟨rfl, rfl⟩
        refine ⟨rfl, rfl, ?_, ?_⟩ <;> simp [Env.get_set, p0, p1, p2, p3, p4, p5, p6, p7, p8, p9, p10, p11, p12, p13, p14, p15, p16, p17, p18, p19, p20, p21, p22, p23, p24, p25]
      · rw [show verL b.data.toList = (n, true) by unfold verL; rw [ha]; exact if_pos ⟨h1, h2⟩]
        have q2 : (b.data == (bsN []).data) = false := by rw [beq_nil]; simpa using h2
        apply Ex.of
        · simp [evC, runOps, step1, wantedD, evQ, evM, setD, Opd.ev, Env.get_set, binQ, binV, unV, i64, loadD, zval, asI, D.int?, elems, bytesOf, lenQ, indexQ, convStrQ, D.isStr, byteD, D.cells, D.single, D.cl, D.clL, norm, normC, setAll, Option.map_some, List.map, List.all, List.length, List.replicate, deferD, D.szOk, put, eqD, veq, nilK, List.getElem?_cons_zero, List.getElem?_cons_succ, p0, p1, p2, p3, p4, p5, p6, p7, p8, p9, p10, p11, p12, p13, p14, p15, p16, p17, p18, p19, p20, p21, p22, p23, p24, p25, d0, d1, d2, d3, d4, d5, d6, d7, d8, d9, d10, d11, d12, d13, d14, d15, d16, d17, d18, d19, d20, d21, d22, d23, d24, d25, t0, t1, t2, t3, t4, t5, t6, t7, t8, t9, t10, t11, t12, t13, t14, t15, t16, t17, t18, t19, t20, t21, t22, t23, t24, t25, g0, c8, pu8, q1, q2]; exact ⟨rfl, rfl⟩
        apply Ex.of
        · simp [evC, runOps, step1, wantedD, evQ, evM, setD, Opd.ev, Env.get_set, binQ, binV, unV, i64, loadD, zval, asI, D.int?, elems, bytesOf, lenQ, indexQ, convStrQ, D.isStr, byteD, D.cells, D.single, D.cl, D.clL, norm, normC, setAll, Option.map_some, List.map, List.all, List.length, List.replicate, deferD, D.szOk, put, eqD, veq, nilK, List.getElem?_cons_zero, List.getElem?_cons_succ, p0, p1, p2, p3, p4, p5, p6, p7, p8, p9, p10, p11, p12, p13, p14, p15, p16, p17, p18, p19, p20, p21, p22, p23, p24, p25, d0, d1, d2, d3, d4, d5, d6, d7, d8, d9, d10, d11, d12, d13, d14, d15, d16, d17, d18, d19, d20, d21, d22, d23, d24, d25, t0, t1, t2, t3, t4, t5, t6, t7, t8, t9, t10, t11, t12, t13, t14, t15, t16, t17, t18, t19, t20, t21, t22, t23, t24, t25, g0]; exact ⟨rfl, rfl⟩
        refine Ex.seq ?_
        apply Ex.of
        · simp [evC, runOps, step1, wantedD, evQ, evM, setD, Opd.ev, Env.get_set, binQ, binV, unV, i64, loadD, zval, asI, D.int?, elems, bytesOf, lenQ, indexQ, convStrQ, D.isStr, byteD, D.cells, D.single, D.cl, D.clL, norm, normC, setAll, Option.map_some, List.map, List.all, List.length, List.replicate, deferD, D.szOk, put, eqD, veq, nilK, List.getElem?_cons_zero, List.getElem?_cons_succ, p0, p1, p2, p3, p4, p5, p6, p7, p8, p9, p10, p11, p12, p13, p14, p15, p16, p17, p18, p19, p20, p21, p22, p23, p24, p25, d0, d1, d2, d3, d4, d5, d6, d7, d8, d9, d10, d11, d12, d13, d14, d15, d16, d17, d18, d19, d20, d21, d22, d23, d24, d25, t0, t1, t2, t3, t4, t5, t6, t7, t8, t9, t10, t11, t12, t13, t14, t15, t16, t17, t18, t19, t20, t21, t22, t23, t24, t25, g0]; exact ⟨rfl, rfl⟩
        refine Ex.ret ⟨rfl, rfl, ?_, ?_⟩ <;> simp [Env.get_set, p0, p1, p2, p3, p4, p5, p6, p7, p8, p9, p10, p11, p12, p13, p14, p15, p16, p17, p18, p19, p20, p21, p22, p23, p24, p25]
    · rw [show verL b.data.toList = (0, false) by unfold verL; rw [ha]; exact if_neg (fun h => h1 h.1)]
      have q1 : ((bsL (nmL n)).data == b.data) = false := by rw [beq_data]; simpa using h1
      apply Ex.of
      · simp [evC, runOps, step1, wantedD, evQ, evM, setD, Opd.ev, Env.get_set, binQ, binV, unV, i64, loadD, zval, asI, D.int?, elems, bytesOf, lenQ, indexQ, convStrQ, D.isStr, byteD, D.cells, D.single, D.cl, D.clL, norm, normC, setAll, Option.map_some, List.map, List.all, List.length, List.replicate, deferD, D.szOk, put, eqD, veq, nilK, List.getElem?_cons_zero, List.getElem?_cons_succ, p0, p1, p2, p3, p4, p5, p6, p7, p8, p9, p10, p11, p12, p13, p14, p15, p16, p17, p18, p19, p20, p21, p22, p23, p24, p25, d0, d1, d2, d3, d4, d5, d6, d7, d8, d9, d10, d11, d12, d13, d14, d15, d16, d17, d18, d19, d20, d21, d22, d23, d24, d25, t0, t1, t2, t3, t4, t5, t6, t7, t8, t9, t10, t11, t12, t13, t14, t15, t16, t17, t18, t19, t20, t21, t22, t23, t24, t25, g0, c8, pu8, q1]; exact ⟨rfl, rfl⟩
      apply Ex.of
      · simp [evC, runOps, step1, wantedD, evQ, evM, setD, Opd.ev, Env.get_set, binQ, binV, unV, i64, loadD, zval, asI, D.int?, elems, bytesOf, lenQ, indexQ, convStrQ, D.isStr, byteD, D.cells, D.single, D.cl, D.clL, norm, normC, setAll, Option.map_some, List.map, List.all, List.length, List.replicate, deferD, D.szOk, put, eqD, veq, nilK, List.getElem?_cons_zero, List.getElem?_cons_succ, p0, p1, p2, p3, p4, p5, p6, p7, p8, p9, p10, p11, p12, p13, p14, p15, p16, p17, p18, p19, p20, p21, p22, p23, p24, p25, d0, d1, d2, d3, d4, d5, d6, d7, d8, d9, d10, d11, d12, d13, d14, d15, d16, d17, d18, d19, d20, d21, d22, d23, d24, d25, t0, t1, t2, t3, t4, t5, t6, t7, t8, t9, t10, t11, t12, t13, t14, t15, t16, t17, t18, t19, t20, t21, t22, t23, t24, t25, g0]; exact ⟨rfl, rfl⟩
      refine ⟨rfl, rfl, ?_, ?_⟩ <;> simp [Env.get_set, p0, p1, p2, p3, p4, p5, p6, p7, p8, p9, p10, p11, p12, p13, p14, p15, p16, p17, p18, p19, p20, p21, p22, p23, p24, p25]
  | _ =>
    rw [ha] at c31
    simp only at c31
    rw [show verL b.data.toList = (0, false) by unfold verL; rw [ha]]
    apply Ex.of
    · simp [evC, runOps, step1, wantedD, evQ, evM, setD, Opd.ev, Env.get_set, binQ, binV, unV, i64, loadD, zval, asI, D.int?, elems, bytesOf, lenQ, indexQ, convStrQ, D.isStr, byteD, D.cells, D.single, D.cl, D.clL, norm, normC, setAll, Option.map_some, List.map, List.all, List.length, List.replicate, deferD, D.szOk, put, eqD, veq, nilK, List.getElem?_cons_zero, List.getElem?_cons_succ, p0, p1, p2, p3, p4, p5, p6, p7, p8, p9, p10, p11, p12, p13, p14, p15, p16, p17, p18, p19, p20, p21, p22, p23, p24, p25, d0, d1, d2, d3, d4, d5, d6, d7, d8, d9, d10, d11, d12, d13, d14, d15, d16, d17, d18, d19, d20, d21, d22, d23, d24, d25, t0, t1, t2, t3, t4, t5, t6, t7, t8, t9, t10, t11, t12, t13, t14, t15, t16, t17, t18, t19, t20, t21, t22, t23, t24, t25, g0, c33, c32, c31, pu31, pu32, pu33]; exact ⟨rfl, rfl⟩
    refine Ex.seq ?_
    refine Ex.seq ?_
    apply Ex.of
    · simp [evC, runOps, step1, wantedD, evQ, evM, setD, Opd.ev, Env.get_set, binQ, binV, unV, i64, loadD, zval, asI, D.int?, elems, bytesOf, lenQ, indexQ, convStrQ, D.isStr, byteD, D.cells, D.single, D.cl, D.clL, norm, normC, setAll, Option.map_some, List.map, List.all, List.length, List.replicate, deferD, D.szOk, put, eqD, veq, nilK, List.getElem?_cons_zero, List.getElem?_cons_succ, p0, p1, p2, p3, p4, p5, p6, p7, p8, p9, p10, p11, p12, p13, p14, p15, p16, p17, p18, p19, p20, p21, p22, p23, p24, p25, d0, d1, d2, d3, d4, d5, d6, d7, d8, d9, d10, d11, d12, d13, d14, d15, d16, d17, d18, d19, d20, d21, d22, d23, d24, d25, t0, t1, t2, t3, t4, t5, t6, t7, t8, t9, t10, t11, t12, t13, t14, t15, t16, t17, t18, t19, t20, t21, t22, t23, t24, t25, g0]; exact ⟨rfl, rfl⟩
    apply Ex.of
    · simp [evC, runOps, step1, wantedD, evQ, evM, setD, Opd.ev, Env.get_set, binQ, binV, unV, i64, loadD, zval, asI, D.int?, elems, bytesOf, lenQ, indexQ, convStrQ, D.isStr, byteD, D.cells, D.single, D.cl, D.clL, norm, normC, setAll, Option.map_some, List.map, List.all, List.length, List.replicate, deferD, D.szOk, put, eqD, veq, nilK, List.getElem?_cons_zero, List.getElem?_cons_succ, p0, p1, p2, p3, p4, p5, p6, p7, p8, p9, p10, p11, p12, p13, p14, p15, p16, p17, p18, p19, p20, p21, p22, p23, p24, p25, d0, d1, d2, d3, d4, d5, d6, d7, d8, d9, d10, d11, d12, d13, d14, d15, d16, d17, d18, d19, d20, d21, d22, d23, d24, d25, t0, t1, t2, t3, t4, t5, t6, t7, t8, t9, t10, t11, t12, t13, t14, t15, t16, t17, t18, t19, t20, t21, t22, t23, t24, t25, g0]; exact ⟨rfl, rfl⟩
    refine ⟨rfl, rfl, ?_, ?_⟩ <;> simp [Env.get_set, p0, p1, p2, p3, p4, p5, p6, p7, p8, p9, p10, p11, p12, p13, p14, p15, p16, p17, p18, p19, p20, p21, p22, p23, p24, p25]
theorem run_vers (b : ByteArray) (hb : b.size ≤ 1000) : evF prN (k + 41) (.func (.func 9) [] []) [.v (.string b)] .empty = some (.tup [.v (.int .i64 (verL b.data.toList).1), .v (.bool (verL b.data.toList).2)], .empty) :=
  ev2 (fn := ir9) (by kernel_rfl) (by kernel_rfl) (by kernel_rfl) rfl rfl fun e g => vers_body b hb e g
end
end Go.Proofs.YtjlaccjneaomgaaGreatDoor
