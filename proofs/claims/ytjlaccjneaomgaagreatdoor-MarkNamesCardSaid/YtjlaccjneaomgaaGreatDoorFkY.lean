/- Markers' versions: the document's, on every text. -/
import Derived.Test.YtjlaccjneaomgaaGreatDoorFkX
namespace Go.Proofs.YtjlaccjneaomgaaGreatDoor
open Go Go.Fk Go.Lib
set_option maxRecDepth 100000
set_option linter.unusedSimpArgs false

theorem ver_of {v : Int} (h1 : 1 ≤ v) (h2 : v ≤ 1073741824) : verL (nmL v) = (v, true) := by
  obtain ⟨n, rfl⟩ : ∃ n : Nat, v = n := ⟨v.toNat, by omega⟩
  unfold verL
  rw [atoi_name n (by omega) (by omega)]
  refine if_pos ⟨rfl, ?_⟩
  unfold nmL
  rw [if_pos ⟨h1, h2⟩]
  simp
theorem ver_cases (l : List UInt8) : verL l = (0, false) ∨ ∃ v, 1 ≤ v ∧ v ≤ 1073741824 ∧ l = nmL v ∧ verL l = (v, true) := by
  unfold verL
  split
  · rename_i n _
    by_cases h : nmL n = l ∧ l ≠ []
    · rw [if_pos h]
      refine .inr ⟨n, ?_, ?_, h.1.symm, rfl⟩ <;>
      · obtain ⟨h3, h4⟩ := h
        rw [← h3] at h4
        unfold nmL at h4
        split at h4
        · omega
        · exact absurd rfl h4
    · rw [if_neg h]; exact .inl rfl
  · exact .inl rfl
theorem ver_none {l : List UInt8} (h : ∀ v, 1 ≤ v → v ≤ 1073741824 → l ≠ nmL v) : (verL l).1 = 0 := by
  rcases ver_cases l with e | ⟨v, h1, h2, h3, _⟩
  · rw [e]
  · exact absurd h3 (h v h1 h2)
theorem nm_digits {v : Int} (h1 : 1 ≤ v) (h2 : v ≤ 1073741824) : ∃ n : Nat, v = n ∧ nmL v = 118 :: 47 :: digs 10 n [] := by
  refine ⟨v.toNat, by omega, ?_⟩
  unfold nmL
  rw [if_pos ⟨h1, h2⟩]

/-- What the document's Version comes to at its end. -/
theorem ver_end (l : List UInt8) (n : Nat) (hn : n = valL 0 ((l.drop 2).take 10)) : (verL l).1 = if nmL n = l then (n : Int) else 0 := by
  by_cases h : nmL n = l
  · rw [if_pos h]
    by_cases hr : 1 ≤ (n : Int) ∧ (n : Int) ≤ 1073741824
    · rw [← h, ver_of hr.1 hr.2]
    · have : l = [] := by rw [← h]; unfold nmL; rw [if_neg hr]
      subst this
      have h0 : n = 0 := hn
      subst h0
      exact ver_none fun v h1 h2 e => by
        obtain ⟨m, _, e2⟩ := nm_digits h1 h2
        rw [e2] at e
        cases e
  · rw [if_neg h]
    refine ver_none fun v h1 h2 e => h ?_
    obtain ⟨m, rfl, e2⟩ := nm_digits h1 h2
    rw [e, e2] at hn
    have e3 : ((118 :: 47 :: digs 10 m []).drop 2).take 10 = digs 10 m [] := by
      show (digs 10 m []).take 10 = _
      exact List.take_of_length_le (by rw [digs_length]; omega)
    rw [e3, valL_digs 10 m (by omega)] at hn
    rw [hn, e]
theorem ver_bad (l : List UInt8) (i : Nat) (hi : 2 ≤ i) (c : UInt8) (h : l[i]? = some c) (hc : ¬ (48 ≤ c.toNat ∧ c.toNat ≤ 57)) : (verL l).1 = 0 := by
  refine ver_none fun v h1 h2 e => hc ?_
  obtain ⟨m, rfl, e2⟩ := nm_digits h1 h2
  rw [e, e2] at h
  obtain ⟨j, rfl⟩ : ∃ j, i = j + 2 := ⟨i - 2, by omega⟩
  simp only [List.getElem?_cons_succ] at h
  exact digs_digit 10 m c (List.mem_of_getElem? h)

section
variable {k : Nat}
theorem rvers_body (b : ByteArray) (e : Env) (g0 : e.get p0 = .v (.string b)) : Ex (evF prN (k + 2)) prN.pure ir11.body ⟨e, [], .empty⟩ (AnsV (.int .i64 (verL b.data.toList).1)) := by
  simp only [p0] at g0
  have hbl : b.size = b.data.toList.length := by simp
  unfold ir11
  refine Ex.seq ?_
  apply Ex.of
  · simp [evC, runOps, step1, wantedD, evQ, evM, setD, Opd.ev, Env.get_set, binQ, binV, unV, i64, loadD, zval, asI, D.int?, elems, bytesOf, lenQ, indexQ, convStrQ, D.isStr, byteD, D.cells, D.single, D.cl, D.clL, norm, normC, setAll, Option.map_some, List.map, List.all, List.length, List.replicate, deferD, D.szOk, put, eqD, veq, nilK, List.getElem?_cons_zero, List.getElem?_cons_succ, p0, p1, p2, p3, p4, p5, p6, p7, p8, p9, p10, p11, p12, p13, p14, p15, p16, p17, p18, p19, p20, p21, p22, p23, p24, p25, p26, p27, p28, p29, p30, p31, p32, p33, p34, p35, p36, p37, d0, d1, d2, d3, d4, d5, d6, d7, d8, d9, d10, d11, d12, d13, d14, d15, d16, d17, d18, d19, d20, d21, d22, d23, d24, d25, d26, d27, d28, d29, d30, d31, d32, d33, d34, d35, d36, d37, t0, t1, t2, t3, t4, t5, t6, t7, t8, t9, t10, t11, t12, t13, t14, t15, t16, t17, t18, t19, t20, t21, t22, t23, t24, t25, t26, t27, t28, t29, t30, t31, t32, t33, t34, t35, t36, t37, g0]; exact ⟨rfl, rfl⟩
  refine Ex.seq ?_
  apply Ex.of
  · simp [evC, runOps, step1, wantedD, evQ, evM, setD, Opd.ev, Env.get_set, binQ, binV, unV, i64, loadD, zval, asI, D.int?, elems, bytesOf, lenQ, indexQ, convStrQ, D.isStr, byteD, D.cells, D.single, D.cl, D.clL, norm, normC, setAll, Option.map_some, List.map, List.all, List.length, List.replicate, deferD, D.szOk, put, eqD, veq, nilK, List.getElem?_cons_zero, List.getElem?_cons_succ, p0, p1, p2, p3, p4, p5, p6, p7, p8, p9, p10, p11, p12, p13, p14, p15, p16, p17, p18, p19, p20, p21, p22, p23, p24, p25, p26, p27, p28, p29, p30, p31, p32, p33, p34, p35, p36, p37, d0, d1, d2, d3, d4, d5, d6, d7, d8, d9, d10, d11, d12, d13, d14, d15, d16, d17, d18, d19, d20, d21, d22, d23, d24, d25, d26, d27, d28, d29, d30, d31, d32, d33, d34, d35, d36, d37, t0, t1, t2, t3, t4, t5, t6, t7, t8, t9, t10, t11, t12, t13, t14, t15, t16, t17, t18, t19, t20, t21, t22, t23, t24, t25, t26, t27, t28, t29, t30, t31, t32, t33, t34, t35, t36, t37, g0]; exact ⟨rfl, rfl⟩
  refine Ex.seq ?_
  refine Ex.seq ?_
  apply Ex.of
  · simp [evC, runOps, step1, wantedD, evQ, evM, setD, Opd.ev, Env.get_set, binQ, binV, unV, i64, loadD, zval, asI, D.int?, elems, bytesOf, lenQ, indexQ, convStrQ, D.isStr, byteD, D.cells, D.single, D.cl, D.clL, norm, normC, setAll, Option.map_some, List.map, List.all, List.length, List.replicate, deferD, D.szOk, put, eqD, veq, nilK, List.getElem?_cons_zero, List.getElem?_cons_succ, p0, p1, p2, p3, p4, p5, p6, p7, p8, p9, p10, p11, p12, p13, p14, p15, p16, p17, p18, p19, p20, p21, p22, p23, p24, p25, p26, p27, p28, p29, p30, p31, p32, p33, p34, p35, p36, p37, d0, d1, d2, d3, d4, d5, d6, d7, d8, d9, d10, d11, d12, d13, d14, d15, d16, d17, d18, d19, d20, d21, d22, d23, d24, d25, d26, d27, d28, d29, d30, d31, d32, d33, d34, d35, d36, d37, t0, t1, t2, t3, t4, t5, t6, t7, t8, t9, t10, t11, t12, t13, t14, t15, t16, t17, t18, t19, t20, t21, t22, t23, t24, t25, t26, t27, t28, t29, t30, t31, t32, t33, t34, t35, t36, t37, g0]; exact ⟨rfl, rfl⟩
  refine Ex.block ?_
  refine Ex.loop (fun m f => ∃ (e : Env) (i n : Nat), m = 12 - i ∧ 2 ≤ i ∧ i ≤ 12 ∧ f = ⟨e, [], .empty⟩ ∧ e.get .h = .v (.string b) ∧ e.get p3 = .v (.int .i64 n) ∧ e.get p4 = .v (.int .i64 i) ∧ n = valL 0 ((b.data.toList.drop 2).take (i - 2)) ∧ n + 1 ≤ 10 ^ (i - 2)) ?_ 10 _ ?_ (by decide)
  · rintro m f ⟨e, i, n, rfl, hi, hi', rfl, g0, g3, g4, hn, hn'⟩
    simp only [p3, p4] at g3 g4
    have hp : 10 ^ (i - 2) ≤ 10 ^ 10 := Nat.pow_le_pow_right (by decide) (by omega)
    refine Ex.seq ?_
    refine Ex.seq ?_
    by_cases ho : i < b.size ∧ i < 12
    · obtain ⟨h1, h2⟩ := ho
      have l1 : ltI (i : Int) (b.size : Int) = true := ltI_t (by omega)
      have l2 : ltI (i : Int) 12 = true := ltI_t (by omega)
      apply Ex.of
      · simp [evC, runOps, step1, wantedD, evQ, evM, setD, Opd.ev, Env.get_set, binQ, binV, unV, i64, loadD, zval, asI, D.int?, elems, bytesOf, lenQ, indexQ, convStrQ, D.isStr, byteD, D.cells, D.single, D.cl, D.clL, norm, normC, setAll, Option.map_some, List.map, List.all, List.length, List.replicate, deferD, D.szOk, put, eqD, veq, nilK, List.getElem?_cons_zero, List.getElem?_cons_succ, p0, p1, p2, p3, p4, p5, p6, p7, p8, p9, p10, p11, p12, p13, p14, p15, p16, p17, p18, p19, p20, p21, p22, p23, p24, p25, p26, p27, p28, p29, p30, p31, p32, p33, p34, p35, p36, p37, d0, d1, d2, d3, d4, d5, d6, d7, d8, d9, d10, d11, d12, d13, d14, d15, d16, d17, d18, d19, d20, d21, d22, d23, d24, d25, d26, d27, d28, d29, d30, d31, d32, d33, d34, d35, d36, d37, t0, t1, t2, t3, t4, t5, t6, t7, t8, t9, t10, t11, t12, t13, t14, t15, t16, t17, t18, t19, t20, t21, t22, t23, t24, t25, t26, t27, t28, t29, t30, t31, t32, t33, t34, t35, t36, t37, g0, g3, g4, l1, l2]; exact ⟨rfl, rfl⟩
      refine Ex.cond (t := true) (by simp [Opd.ev, Env.get_set, t12, p0, p1, p2, p3, p4, p5, p6, p7, p8, p9, p10, p11, p12, p13, p14, p15, p16, p17, p18, p19, p20, p21, p22, p23, p24, p25, p26, p27, p28, p29, p30, p31, p32, p33, p34, p35, p36, p37]) ?_
      rw [if_pos rfl]
      refine Ex.skip ?_
      obtain ⟨c, hc⟩ : ∃ c, b.data.toList[i]? = some c := ⟨_, List.getElem?_eq_getElem (by omega)⟩
      have hc' : b.data[i]? = some c := by rw [← hc]; simp
      refine Ex.seq ?_
      refine Ex.block ?_
      refine Ex.seq ?_
      refine Ex.seq ?_
      by_cases q1 : (c.toNat : Int) < 48
      · have k1 := ltI_t q1
        apply Ex.of
        · simp [evC, runOps, step1, wantedD, evQ, evM, setD, Opd.ev, Env.get_set, binQ, binV, unV, i64, loadD, zval, asI, D.int?, elems, bytesOf, lenQ, indexQ, convStrQ, D.isStr, byteD, D.cells, D.single, D.cl, D.clL, norm, normC, setAll, Option.map_some, List.map, List.all, List.length, List.replicate, deferD, D.szOk, put, eqD, veq, nilK, List.getElem?_cons_zero, List.getElem?_cons_succ, p0, p1, p2, p3, p4, p5, p6, p7, p8, p9, p10, p11, p12, p13, p14, p15, p16, p17, p18, p19, p20, p21, p22, p23, p24, p25, p26, p27, p28, p29, p30, p31, p32, p33, p34, p35, p36, p37, d0, d1, d2, d3, d4, d5, d6, d7, d8, d9, d10, d11, d12, d13, d14, d15, d16, d17, d18, d19, d20, d21, d22, d23, d24, d25, d26, d27, d28, d29, d30, d31, d32, d33, d34, d35, d36, d37, t0, t1, t2, t3, t4, t5, t6, t7, t8, t9, t10, t11, t12, t13, t14, t15, t16, t17, t18, t19, t20, t21, t22, t23, t24, t25, t26, t27, t28, t29, t30, t31, t32, t33, t34, t35, t36, t37, g0, g3, g4, hc', k1]; exact ⟨rfl, rfl⟩
        refine Ex.cond (t := true) (by simp [Opd.ev, Env.get_set, t24, p0, p1, p2, p3, p4, p5, p6, p7, p8, p9, p10, p11, p12, p13, p14, p15, p16, p17, p18, p19, p20, p21, p22, p23, p24, p25, p26, p27, p28, p29, p30, p31, p32, p33, p34, p35, p36, p37]) ?_
        rw [if_pos rfl]
        rw [ver_bad _ i hi c hc (by omega)]
        refine Ex.seq ?_
        apply Ex.of
        · simp [evC, runOps, step1, wantedD, evQ, evM, setD, Opd.ev, Env.get_set, binQ, binV, unV, i64, loadD, zval, asI, D.int?, elems, bytesOf, lenQ, indexQ, convStrQ, D.isStr, byteD, D.cells, D.single, D.cl, D.clL, norm, normC, setAll, Option.map_some, List.map, List.all, List.length, List.replicate, deferD, D.szOk, put, eqD, veq, nilK, List.getElem?_cons_zero, List.getElem?_cons_succ, p0, p1, p2, p3, p4, p5, p6, p7, p8, p9, p10, p11, p12, p13, p14, p15, p16, p17, p18, p19, p20, p21, p22, p23, p24, p25, p26, p27, p28, p29, p30, p31, p32, p33, p34, p35, p36, p37, d0, d1, d2, d3, d4, d5, d6, d7, d8, d9, d10, d11, d12, d13, d14, d15, d16, d17, d18, d19, d20, d21, d22, d23, d24, d25, d26, d27, d28, d29, d30, d31, d32, d33, d34, d35, d36, d37, t0, t1, t2, t3, t4, t5, t6, t7, t8, t9, t10, t11, t12, t13, t14, t15, t16, t17, t18, t19, t20, t21, t22, t23, t24, t25, t26, t27, t28, t29, t30, t31, t32, t33, t34, t35, t36, t37, g0]; exact ⟨rfl, rfl⟩
        refine Ex.ret ⟨rfl, rfl, ?_⟩
        simp [Env.get_set, p0, p1, p2, p3, p4, p5, p6, p7, p8, p9, p10, p11, p12, p13, p14, p15, p16, p17, p18, p19, p20, p21, p22, p23, p24, p25, p26, p27, p28, p29, p30, p31, p32, p33, p34, p35, p36, p37]
      have k1 := ltI_f q1
      by_cases q2 : (57 : Int) < c.toNat
      · have k2 := ltI_t q2
        apply Ex.of
        · simp [evC, runOps, step1, wantedD, evQ, evM, setD, Opd.ev, Env.get_set, binQ, binV, unV, i64, loadD, zval, asI, D.int?, elems, bytesOf, lenQ, indexQ, convStrQ, D.isStr, byteD, D.cells, D.single, D.cl, D.clL, norm, normC, setAll, Option.map_some, List.map, List.all, List.length, List.replicate, deferD, D.szOk, put, eqD, veq, nilK, List.getElem?_cons_zero, List.getElem?_cons_succ, p0, p1, p2, p3, p4, p5, p6, p7, p8, p9, p10, p11, p12, p13, p14, p15, p16, p17, p18, p19, p20, p21, p22, p23, p24, p25, p26, p27, p28, p29, p30, p31, p32, p33, p34, p35, p36, p37, d0, d1, d2, d3, d4, d5, d6, d7, d8, d9, d10, d11, d12, d13, d14, d15, d16, d17, d18, d19, d20, d21, d22, d23, d24, d25, d26, d27, d28, d29, d30, d31, d32, d33, d34, d35, d36, d37, t0, t1, t2, t3, t4, t5, t6, t7, t8, t9, t10, t11, t12, t13, t14, t15, t16, t17, t18, t19, t20, t21, t22, t23, t24, t25, t26, t27, t28, t29, t30, t31, t32, t33, t34, t35, t36, t37, g0, g3, g4, hc', k1, k2]; exact ⟨rfl, rfl⟩
        refine Ex.cond (t := true) (by simp [Opd.ev, Env.get_set, t24, p0, p1, p2, p3, p4, p5, p6, p7, p8, p9, p10, p11, p12, p13, p14, p15, p16, p17, p18, p19, p20, p21, p22, p23, p24, p25, p26, p27, p28, p29, p30, p31, p32, p33, p34, p35, p36, p37]) ?_
        rw [if_pos rfl]
        rw [ver_bad _ i hi c hc (by omega)]
        refine Ex.seq ?_
        apply Ex.of
        · simp [evC, runOps, step1, wantedD, evQ, evM, setD, Opd.ev, Env.get_set, binQ, binV, unV, i64, loadD, zval, asI, D.int?, elems, bytesOf, lenQ, indexQ, convStrQ, D.isStr, byteD, D.cells, D.single, D.cl, D.clL, norm, normC, setAll, Option.map_some, List.map, List.all, List.length, List.replicate, deferD, D.szOk, put, eqD, veq, nilK, List.getElem?_cons_zero, List.getElem?_cons_succ, p0, p1, p2, p3, p4, p5, p6, p7, p8, p9, p10, p11, p12, p13, p14, p15, p16, p17, p18, p19, p20, p21, p22, p23, p24, p25, p26, p27, p28, p29, p30, p31, p32, p33, p34, p35, p36, p37, d0, d1, d2, d3, d4, d5, d6, d7, d8, d9, d10, d11, d12, d13, d14, d15, d16, d17, d18, d19, d20, d21, d22, d23, d24, d25, d26, d27, d28, d29, d30, d31, d32, d33, d34, d35, d36, d37, t0, t1, t2, t3, t4, t5, t6, t7, t8, t9, t10, t11, t12, t13, t14, t15, t16, t17, t18, t19, t20, t21, t22, t23, t24, t25, t26, t27, t28, t29, t30, t31, t32, t33, t34, t35, t36, t37, g0]; exact ⟨rfl, rfl⟩
        refine Ex.ret ⟨rfl, rfl, ?_⟩
        simp [Env.get_set, p0, p1, p2, p3, p4, p5, p6, p7, p8, p9, p10, p11, p12, p13, p14, p15, p16, p17, p18, p19, p20, p21, p22, p23, p24, p25, p26, p27, p28, p29, p30, p31, p32, p33, p34, p35, p36, p37]
      have k2 := ltI_f q2
      apply Ex.of
      · simp [evC, runOps, step1, wantedD, evQ, evM, setD, Opd.ev, Env.get_set, binQ, binV, unV, i64, loadD, zval, asI, D.int?, elems, bytesOf, lenQ, indexQ, convStrQ, D.isStr, byteD, D.cells, D.single, D.cl, D.clL, norm, normC, setAll, Option.map_some, List.map, List.all, List.length, List.replicate, deferD, D.szOk, put, eqD, veq, nilK, List.getElem?_cons_zero, List.getElem?_cons_succ, p0, p1, p2, p3, p4, p5, p6, p7, p8, p9, p10, p11, p12, p13, p14, p15, p16, p17, p18, p19, p20, p21, p22, p23, p24, p25, p26, p27, p28, p29, p30, p31, p32, p33, p34, p35, p36, p37, d0, d1, d2, d3, d4, d5, d6, d7, d8, d9, d10, d11, d12, d13, d14, d15, d16, d17, d18, d19, d20, d21, d22, d23, d24, d25, d26, d27, d28, d29, d30, d31, d32, d33, d34, d35, d36, d37, t0, t1, t2, t3, t4, t5, t6, t7, t8, t9, t10, t11, t12, t13, t14, t15, t16, t17, t18, t19, t20, t21, t22, t23, t24, t25, t26, t27, t28, t29, t30, t31, t32, t33, t34, t35, t36, t37, g0, g3, g4, hc', k1, k2]; exact ⟨rfl, rfl⟩
      refine Ex.cond (t := false) (by simp [Opd.ev, Env.get_set, t24, p0, p1, p2, p3, p4, p5, p6, p7, p8, p9, p10, p11, p12, p13, p14, p15, p16, p17, p18, p19, p20, p21, p22, p23, p24, p25, p26, p27, p28, p29, p30, p31, p32, p33, p34, p35, p36, p37]) ?_
      rw [if_neg (by decide)]
      refine Ex.skip ?_
      have w1 : IntKind.i64.wrap (10 * (n : Int)) = 10 * (n : Int) := wrap64_of _ (by omega) (by omega)
      have w2 : IntKind.u8.wrap ((c.toNat : Int) - 48) = (c.toNat : Int) - 48 := by simp [IntKind.wrap, IntKind.bits, IntKind.signed]; omega
      have w3 : IntKind.i64.wrap ((c.toNat : Int) - 48) = (c.toNat : Int) - 48 := wrap64_of _ (by omega) (by omega)
      have w4 : IntKind.i64.wrap (10 * (n : Int) + ((c.toNat : Int) - 48)) = 10 * (n : Int) + ((c.toNat : Int) - 48) := wrap64_of _ (by omega) (by omega)
      have w5 : IntKind.i64.wrap ((i : Int) + 1) = (i : Int) + 1 := wrap64_of _ (by omega) (by omega)
      apply Ex.of
      · simp [evC, runOps, step1, wantedD, evQ, evM, setD, Opd.ev, Env.get_set, binQ, binV, unV, i64, loadD, zval, asI, D.int?, elems, bytesOf, lenQ, indexQ, convStrQ, D.isStr, byteD, D.cells, D.single, D.cl, D.clL, norm, normC, setAll, Option.map_some, List.map, List.all, List.length, List.replicate, deferD, D.szOk, put, eqD, veq, nilK, List.getElem?_cons_zero, List.getElem?_cons_succ, p0, p1, p2, p3, p4, p5, p6, p7, p8, p9, p10, p11, p12, p13, p14, p15, p16, p17, p18, p19, p20, p21, p22, p23, p24, p25, p26, p27, p28, p29, p30, p31, p32, p33, p34, p35, p36, p37, d0, d1, d2, d3, d4, d5, d6, d7, d8, d9, d10, d11, d12, d13, d14, d15, d16, d17, d18, d19, d20, d21, d22, d23, d24, d25, d26, d27, d28, d29, d30, d31, d32, d33, d34, d35, d36, d37, t0, t1, t2, t3, t4, t5, t6, t7, t8, t9, t10, t11, t12, t13, t14, t15, t16, t17, t18, t19, t20, t21, t22, t23, t24, t25, t26, t27, t28, t29, t30, t31, t32, t33, t34, t35, t36, t37, g0, g3, g4, hc', w1, w2, w3, w4]; exact ⟨rfl, rfl⟩
      apply Ex.of
      · simp [evC, runOps, step1, wantedD, evQ, evM, setD, Opd.ev, Env.get_set, binQ, binV, unV, i64, loadD, zval, asI, D.int?, elems, bytesOf, lenQ, indexQ, convStrQ, D.isStr, byteD, D.cells, D.single, D.cl, D.clL, norm, normC, setAll, Option.map_some, List.map, List.all, List.length, List.replicate, deferD, D.szOk, put, eqD, veq, nilK, List.getElem?_cons_zero, List.getElem?_cons_succ, p0, p1, p2, p3, p4, p5, p6, p7, p8, p9, p10, p11, p12, p13, p14, p15, p16, p17, p18, p19, p20, p21, p22, p23, p24, p25, p26, p27, p28, p29, p30, p31, p32, p33, p34, p35, p36, p37, d0, d1, d2, d3, d4, d5, d6, d7, d8, d9, d10, d11, d12, d13, d14, d15, d16, d17, d18, d19, d20, d21, d22, d23, d24, d25, d26, d27, d28, d29, d30, d31, d32, d33, d34, d35, d36, d37, t0, t1, t2, t3, t4, t5, t6, t7, t8, t9, t10, t11, t12, t13, t14, t15, t16, t17, t18, t19, t20, t21, t22, t23, t24, t25, t26, t27, t28, t29, t30, t31, t32, t33, t34, t35, t36, t37, g0, g3, g4, w5]; exact ⟨rfl, rfl⟩
      refine ⟨12 - (i + 1), by omega, _, i + 1, 10 * n + (c.toNat - 48), rfl, by omega, by omega, rfl, ?_, ?_, ?_, ?_, ?_⟩
      · simp [Env.get_set, p0, p1, p2, p3, p4, p5, p6, p7, p8, p9, p10, p11, p12, p13, p14, p15, p16, p17, p18, p19, p20, p21, p22, p23, p24, p25, p26, p27, p28, p29, p30, p31, p32, p33, p34, p35, p36, p37, g0]
      · simp [Env.get_set, p0, p1, p2, p3, p4, p5, p6, p7, p8, p9, p10, p11, p12, p13, p14, p15, p16, p17, p18, p19, p20, p21, p22, p23, p24, p25, p26, p27, p28, p29, p30, p31, p32, p33, p34, p35, p36, p37]; omega
      · simp [Env.get_set, p0, p1, p2, p3, p4, p5, p6, p7, p8, p9, p10, p11, p12, p13, p14, p15, p16, p17, p18, p19, p20, p21, p22, p23, p24, p25, p26, p27, p28, p29, p30, p31, p32, p33, p34, p35, p36, p37]
      · have e1 : (b.data.toList.drop 2).take (i + 1 - 2) = (b.data.toList.drop 2).take (i - 2) ++ [c] := by
          have : i + 1 - 2 = (i - 2) + 1 := by omega
          rw [this, List.take_add_one, List.getElem?_drop, show 2 + (i - 2) = i by omega, hc]
          rfl
        rw [e1, valL_append, ← hn]
        rfl
      · have : i + 1 - 2 = (i - 2) + 1 := by omega
        rw [this, Nat.pow_succ]
        omega
    · have hfin : (b.data.toList.drop 2).take (i - 2) = (b.data.toList.drop 2).take 10 := by
        by_cases h12 : i = 12
        · subst h12; rfl
        · have hlen : (b.data.toList.drop 2).length ≤ i - 2 := by rw [List.length_drop]; omega
          rw [List.take_of_length_le hlen, List.take_of_length_le (by omega)]
      rw [hfin] at hn
      have hend := ver_end b.data.toList n hn
      have c10 := run_rname (k := k + 1) (n : Int)
      have pu10 := pu 10 (by kernel_rfl)
      by_cases h1 : i < b.size
      · have l1 : ltI (i : Int) (b.size : Int) = true := ltI_t (by omega)
        have l2 : ltI (i : Int) 12 = false := ltI_f (by omega)
        apply Ex.of
        · simp [evC, runOps, step1, wantedD, evQ, evM, setD, Opd.ev, Env.get_set, binQ, binV, unV, i64, loadD, zval, asI, D.int?, elems, bytesOf, lenQ, indexQ, convStrQ, D.isStr, byteD, D.cells, D.single, D.cl, D.clL, norm, normC, setAll, Option.map_some, List.map, List.all, List.length, List.replicate, deferD, D.szOk, put, eqD, veq, nilK, List.getElem?_cons_zero, List.getElem?_cons_succ, p0, p1, p2, p3, p4, p5, p6, p7, p8, p9, p10, p11, p12, p13, p14, p15, p16, p17, p18, p19, p20, p21, p22, p23, p24, p25, p26, p27, p28, p29, p30, p31, p32, p33, p34, p35, p36, p37, d0, d1, d2, d3, d4, d5, d6, d7, d8, d9, d10, d11, d12, d13, d14, d15, d16, d17, d18, d19, d20, d21, d22, d23, d24, d25, d26, d27, d28, d29, d30, d31, d32, d33, d34, d35, d36, d37, t0, t1, t2, t3, t4, t5, t6, t7, t8, t9, t10, t11, t12, t13, t14, t15, t16, t17, t18, t19, t20, t21, t22, t23, t24, t25, t26, t27, t28, t29, t30, t31, t32, t33, t34, t35, t36, t37, g0, g3, g4, l1, l2]; exact ⟨rfl, rfl⟩
        refine Ex.cond (t := false) (by simp [Opd.ev, Env.get_set, t12, p0, p1, p2, p3, p4, p5, p6, p7, p8, p9, p10, p11, p12, p13, p14, p15, p16, p17, p18, p19, p20, p21, p22, p23, p24, p25, p26, p27, p28, p29, p30, p31, p32, p33, p34, p35, p36, p37]) ?_
        rw [if_neg (by decide)]
        refine Ex.exit ?_
        simp only [if_true]
        refine Ex.seq ?_
        refine Ex.seq ?_
        by_cases h : nmL n = b.data.toList
        · rw [hend, if_pos h]
          have q1 : ((bsL (nmL (n : Int))).data == b.data) = true := by rw [beq_data]; simpa using h
          apply Ex.of
          · simp [evC, runOps, step1, wantedD, evQ, evM, setD, Opd.ev, Env.get_set, binQ, binV, unV, i64, loadD, zval, asI, D.int?, elems, bytesOf, lenQ, indexQ, convStrQ, D.isStr, byteD, D.cells, D.single, D.cl, D.clL, norm, normC, setAll, Option.map_some, List.map, List.all, List.length, List.replicate, deferD, D.szOk, put, eqD, veq, nilK, List.getElem?_cons_zero, List.getElem?_cons_succ, p0, p1, p2, p3, p4, p5, p6, p7, p8, p9, p10, p11, p12, p13, p14, p15, p16, p17, p18, p19, p20, p21, p22, p23, p24, p25, p26, p27, p28, p29, p30, p31, p32, p33, p34, p35, p36, p37, d0, d1, d2, d3, d4, d5, d6, d7, d8, d9, d10, d11, d12, d13, d14, d15, d16, d17, d18, d19, d20, d21, d22, d23, d24, d25, d26, d27, d28, d29, d30, d31, d32, d33, d34, d35, d36, d37, t0, t1, t2, t3, t4, t5, t6, t7, t8, t9, t10, t11, t12, t13, t14, t15, t16, t17, t18, t19, t20, t21, t22, t23, t24, t25, t26, t27, t28, t29, t30, t31, t32, t33, t34, t35, t36, t37, g0, g3, g4, c10, pu10, q1]; exact ⟨rfl, rfl⟩
          refine Ex.cond (t := false) (by simp [Opd.ev, Env.get_set, t36, p0, p1, p2, p3, p4, p5, p6, p7, p8, p9, p10, p11, p12, p13, p14, p15, p16, p17, p18, p19, p20, p21, p22, p23, p24, p25, p26, p27, p28, p29, p30, p31, p32, p33, p34, p35, p36, p37]) ?_
          rw [if_neg (by decide)]
          refine Ex.skip ?_
          refine Ex.seq ?_
          apply Ex.of
          · simp [evC, runOps, step1, wantedD, evQ, evM, setD, Opd.ev, Env.get_set, binQ, binV, unV, i64, loadD, zval, asI, D.int?, elems, bytesOf, lenQ, indexQ, convStrQ, D.isStr, byteD, D.cells, D.single, D.cl, D.clL, norm, normC, setAll, Option.map_some, List.map, List.all, List.length, List.replicate, deferD, D.szOk, put, eqD, veq, nilK, List.getElem?_cons_zero, List.getElem?_cons_succ, p0, p1, p2, p3, p4, p5, p6, p7, p8, p9, p10, p11, p12, p13, p14, p15, p16, p17, p18, p19, p20, p21, p22, p23, p24, p25, p26, p27, p28, p29, p30, p31, p32, p33, p34, p35, p36, p37, d0, d1, d2, d3, d4, d5, d6, d7, d8, d9, d10, d11, d12, d13, d14, d15, d16, d17, d18, d19, d20, d21, d22, d23, d24, d25, d26, d27, d28, d29, d30, d31, d32, d33, d34, d35, d36, d37, t0, t1, t2, t3, t4, t5, t6, t7, t8, t9, t10, t11, t12, t13, t14, t15, t16, t17, t18, t19, t20, t21, t22, t23, t24, t25, t26, t27, t28, t29, t30, t31, t32, t33, t34, t35, t36, t37, g3]; exact ⟨rfl, rfl⟩
          refine Ex.ret ⟨rfl, rfl, ?_⟩
          simp [Env.get_set, p0, p1, p2, p3, p4, p5, p6, p7, p8, p9, p10, p11, p12, p13, p14, p15, p16, p17, p18, p19, p20, p21, p22, p23, p24, p25, p26, p27, p28, p29, p30, p31, p32, p33, p34, p35, p36, p37]
        · rw [hend, if_neg h]
          have q1 : ((bsL (nmL (n : Int))).data == b.data) = false := by rw [beq_data]; simpa using h
          apply Ex.of
          · simp [evC, runOps, step1, wantedD, evQ, evM, setD, Opd.ev, Env.get_set, binQ, binV, unV, i64, loadD, zval, asI, D.int?, elems, bytesOf, lenQ, indexQ, convStrQ, D.isStr, byteD, D.cells, D.single, D.cl, D.clL, norm, normC, setAll, Option.map_some, List.map, List.all, List.length, List.replicate, deferD, D.szOk, put, eqD, veq, nilK, List.getElem?_cons_zero, List.getElem?_cons_succ, p0, p1, p2, p3, p4, p5, p6, p7, p8, p9, p10, p11, p12, p13, p14, p15, p16, p17, p18, p19, p20, p21, p22, p23, p24, p25, p26, p27, p28, p29, p30, p31, p32, p33, p34, p35, p36, p37, d0, d1, d2, d3, d4, d5, d6, d7, d8, d9, d10, d11, d12, d13, d14, d15, d16, d17, d18, d19, d20, d21, d22, d23, d24, d25, d26, d27, d28, d29, d30, d31, d32, d33, d34, d35, d36, d37, t0, t1, t2, t3, t4, t5, t6, t7, t8, t9, t10, t11, t12, t13, t14, t15, t16, t17, t18, t19, t20, t21, t22, t23, t24, t25, t26, t27, t28, t29, t30, t31, t32, t33, t34, t35, t36, t37, g0, g3, g4, c10, pu10, q1]; exact ⟨rfl, rfl⟩
          refine Ex.cond (t := true) (by simp [Opd.ev, Env.get_set, t36, p0, p1, p2, p3, p4, p5, p6, p7, p8, p9, p10, p11, p12, p13, p14, p15, p16, p17, p18, p19, p20, p21, p22, p23, p24, p25, p26, p27, p28, p29, p30, p31, p32, p33, p34, p35, p36, p37]) ?_
          rw [if_pos rfl]
          refine Ex.seq ?_
          apply Ex.of
          · simp [evC, runOps, step1, wantedD, evQ, evM, setD, Opd.ev, Env.get_set, binQ, binV, unV, i64, loadD, zval, asI, D.int?, elems, bytesOf, lenQ, indexQ, convStrQ, D.isStr, byteD, D.cells, D.single, D.cl, D.clL, norm, normC, setAll, Option.map_some, List.map, List.all, List.length, List.replicate, deferD, D.szOk, put, eqD, veq, nilK, List.getElem?_cons_zero, List.getElem?_cons_succ, p0, p1, p2, p3, p4, p5, p6, p7, p8, p9, p10, p11, p12, p13, p14, p15, p16, p17, p18, p19, p20, p21, p22, p23, p24, p25, p26, p27, p28, p29, p30, p31, p32, p33, p34, p35, p36, p37, d0, d1, d2, d3, d4, d5, d6, d7, d8, d9, d10, d11, d12, d13, d14, d15, d16, d17, d18, d19, d20, d21, d22, d23, d24, d25, d26, d27, d28, d29, d30, d31, d32, d33, d34, d35, d36, d37, t0, t1, t2, t3, t4, t5, t6, t7, t8, t9, t10, t11, t12, t13, t14, t15, t16, t17, t18, t19, t20, t21, t22, t23, t24, t25, t26, t27, t28, t29, t30, t31, t32, t33, t34, t35, t36, t37, g3]; exact ⟨rfl, rfl⟩
          refine Ex.ret ⟨rfl, rfl, ?_⟩
          simp [Env.get_set, p0, p1, p2, p3, p4, p5, p6, p7, p8, p9, p10, p11, p12, p13, p14, p15, p16, p17, p18, p19, p20, p21, p22, p23, p24, p25, p26, p27, p28, p29, p30, p31, p32, p33, p34, p35, p36, p37]
      · have l1 : ltI (i : Int) (b.size : Int) = false := ltI_f (by omega)
        apply Ex.of
        · simp [evC, runOps, step1, wantedD, evQ, evM, setD, Opd.ev, Env.get_set, binQ, binV, unV, i64, loadD, zval, asI, D.int?, elems, bytesOf, lenQ, indexQ, convStrQ, D.isStr, byteD, D.cells, D.single, D.cl, D.clL, norm, normC, setAll, Option.map_some, List.map, List.all, List.length, List.replicate, deferD, D.szOk, put, eqD, veq, nilK, List.getElem?_cons_zero, List.getElem?_cons_succ, p0, p1, p2, p3, p4, p5, p6, p7, p8, p9, p10, p11, p12, p13, p14, p15, p16, p17, p18, p19, p20, p21, p22, p23, p24, p25, p26, p27, p28, p29, p30, p31, p32, p33, p34, p35, p36, p37, d0, d1, d2, d3, d4, d5, d6, d7, d8, d9, d10, d11, d12, d13, d14, d15, d16, d17, d18, d19, d20, d21, d22, d23, d24, d25, d26, d27, d28, d29, d30, d31, d32, d33, d34, d35, d36, d37, t0, t1, t2, t3, t4, t5, t6, t7, t8, t9, t10, t11, t12, t13, t14, t15, t16, t17, t18, t19, t20, t21, t22, t23, t24, t25, t26, t27, t28, t29, t30, t31, t32, t33, t34, t35, t36, t37, g0, g3, g4, l1]; exact ⟨rfl, rfl⟩
        refine Ex.cond (t := false) (by simp [Opd.ev, Env.get_set, t12, p0, p1, p2, p3, p4, p5, p6, p7, p8, p9, p10, p11, p12, p13, p14, p15, p16, p17, p18, p19, p20, p21, p22, p23, p24, p25, p26, p27, p28, p29, p30, p31, p32, p33, p34, p35, p36, p37]) ?_
        rw [if_neg (by decide)]
        refine Ex.exit ?_
        simp only [if_true]
        refine Ex.seq ?_
        refine Ex.seq ?_
        by_cases h : nmL n = b.data.toList
        · rw [hend, if_pos h]
          have q1 : ((bsL (nmL (n : Int))).data == b.data) = true := by rw [beq_data]; simpa using h
          apply Ex.of
          · simp [evC, runOps, step1, wantedD, evQ, evM, setD, Opd.ev, Env.get_set, binQ, binV, unV, i64, loadD, zval, asI, D.int?, elems, bytesOf, lenQ, indexQ, convStrQ, D.isStr, byteD, D.cells, D.single, D.cl, D.clL, norm, normC, setAll, Option.map_some, List.map, List.all, List.length, List.replicate, deferD, D.szOk, put, eqD, veq, nilK, List.getElem?_cons_zero, List.getElem?_cons_succ, p0, p1, p2, p3, p4, p5, p6, p7, p8, p9, p10, p11, p12, p13, p14, p15, p16, p17, p18, p19, p20, p21, p22, p23, p24, p25, p26, p27, p28, p29, p30, p31, p32, p33, p34, p35, p36, p37, d0, d1, d2, d3, d4, d5, d6, d7, d8, d9, d10, d11, d12, d13, d14, d15, d16, d17, d18, d19, d20, d21, d22, d23, d24, d25, d26, d27, d28, d29, d30, d31, d32, d33, d34, d35, d36, d37, t0, t1, t2, t3, t4, t5, t6, t7, t8, t9, t10, t11, t12, t13, t14, t15, t16, t17, t18, t19, t20, t21, t22, t23, t24, t25, t26, t27, t28, t29, t30, t31, t32, t33, t34, t35, t36, t37, g0, g3, g4, c10, pu10, q1]; exact ⟨rfl, rfl⟩
          refine Ex.cond (t := false) (by simp [Opd.ev, Env.get_set, t36, p0, p1, p2, p3, p4, p5, p6, p7, p8, p9, p10, p11, p12, p13, p14, p15, p16, p17, p18, p19, p20, p21, p22, p23, p24, p25, p26, p27, p28, p29, p30, p31, p32, p33, p34, p35, p36, p37]) ?_
          rw [if_neg (by decide)]
          refine Ex.skip ?_
          refine Ex.seq ?_
          apply Ex.of
          · simp [evC, runOps, step1, wantedD, evQ, evM, setD, Opd.ev, Env.get_set, binQ, binV, unV, i64, loadD, zval, asI, D.int?, elems, bytesOf, lenQ, indexQ, convStrQ, D.isStr, byteD, D.cells, D.single, D.cl, D.clL, norm, normC, setAll, Option.map_some, List.map, List.all, List.length, List.replicate, deferD, D.szOk, put, eqD, veq, nilK, List.getElem?_cons_zero, List.getElem?_cons_succ, p0, p1, p2, p3, p4, p5, p6, p7, p8, p9, p10, p11, p12, p13, p14, p15, p16, p17, p18, p19, p20, p21, p22, p23, p24, p25, p26, p27, p28, p29, p30, p31, p32, p33, p34, p35, p36, p37, d0, d1, d2, d3, d4, d5, d6, d7, d8, d9, d10, d11, d12, d13, d14, d15, d16, d17, d18, d19, d20, d21, d22, d23, d24, d25, d26, d27, d28, d29, d30, d31, d32, d33, d34, d35, d36, d37, t0, t1, t2, t3, t4, t5, t6, t7, t8, t9, t10, t11, t12, t13, t14, t15, t16, t17, t18, t19, t20, t21, t22, t23, t24, t25, t26, t27, t28, t29, t30, t31, t32, t33, t34, t35, t36, t37, g3]; exact ⟨rfl, rfl⟩
          refine Ex.ret ⟨rfl, rfl, ?_⟩
          simp [Env.get_set, p0, p1, p2, p3, p4, p5, p6, p7, p8, p9, p10, p11, p12, p13, p14, p15, p16, p17, p18, p19, p20, p21, p22, p23, p24, p25, p26, p27, p28, p29, p30, p31, p32, p33, p34, p35, p36, p37]
        · rw [hend, if_neg h]
          have q1 : ((bsL (nmL (n : Int))).data == b.data) = false := by rw [beq_data]; simpa using h
          apply Ex.of
          · simp [evC, runOps, step1, wantedD, evQ, evM, setD, Opd.ev, Env.get_set, binQ, binV, unV, i64, loadD, zval, asI, D.int?, elems, bytesOf, lenQ, indexQ, convStrQ, D.isStr, byteD, D.cells, D.single, D.cl, D.clL, norm, normC, setAll, Option.map_some, List.map, List.all, List.length, List.replicate, deferD, D.szOk, put, eqD, veq, nilK, List.getElem?_cons_zero, List.getElem?_cons_succ, p0, p1, p2, p3, p4, p5, p6, p7, p8, p9, p10, p11, p12, p13, p14, p15, p16, p17, p18, p19, p20, p21, p22, p23, p24, p25, p26, p27, p28, p29, p30, p31, p32, p33, p34, p35, p36, p37, d0, d1, d2, d3, d4, d5, d6, d7, d8, d9, d10, d11, d12, d13, d14, d15, d16, d17, d18, d19, d20, d21, d22, d23, d24, d25, d26, d27, d28, d29, d30, d31, d32, d33, d34, d35, d36, d37, t0, t1, t2, t3, t4, t5, t6, t7, t8, t9, t10, t11, t12, t13, t14, t15, t16, t17, t18, t19, t20, t21, t22, t23, t24, t25, t26, t27, t28, t29, t30, t31, t32, t33, t34, t35, t36, t37, g0, g3, g4, c10, pu10, q1]; exact ⟨rfl, rfl⟩
          refine Ex.cond (t := true) (by simp [Opd.ev, Env.get_set, t36, p0, p1, p2, p3, p4, p5, p6, p7, p8, p9, p10, p11, p12, p13, p14, p15, p16, p17, p18, p19, p20, p21, p22, p23, p24, p25, p26, p27, p28, p29, p30, p31, p32, p33, p34, p35, p36, p37]) ?_
          rw [if_pos rfl]
          refine Ex.seq ?_
          apply Ex.of
          · simp [evC, runOps, step1, wantedD, evQ, evM, setD, Opd.ev, Env.get_set, binQ, binV, unV, i64, loadD, zval, asI, D.int?, elems, bytesOf, lenQ, indexQ, convStrQ, D.isStr, byteD, D.cells, D.single, D.cl, D.clL, norm, normC, setAll, Option.map_some, List.map, List.all, List.length, List.replicate, deferD, D.szOk, put, eqD, veq, nilK, List.getElem?_cons_zero, List.getElem?_cons_succ, p0, p1, p2, p3, p4, p5, p6, p7, p8, p9, p10, p11, p12, p13, p14, p15, p16, p17, p18, p19, p20, p21, p22, p23, p24, p25, p26, p27, p28, p29, p30, p31, p32, p33, p34, p35, p36, p37, d0, d1, d2, d3, d4, d5, d6, d7, d8, d9, d10, d11, d12, d13, d14, d15, d16, d17, d18, d19, d20, d21, d22, d23, d24, d25, d26, d27, d28, d29, d30, d31, d32, d33, d34, d35, d36, d37, t0, t1, t2, t3, t4, t5, t6, t7, t8, t9, t10, t11, t12, t13, t14, t15, t16, t17, t18, t19, t20, t21, t22, t23, t24, t25, t26, t27, t28, t29, t30, t31, t32, t33, t34, t35, t36, t37, g3]; exact ⟨rfl, rfl⟩
          refine Ex.ret ⟨rfl, rfl, ?_⟩
          simp [Env.get_set, p0, p1, p2, p3, p4, p5, p6, p7, p8, p9, p10, p11, p12, p13, p14, p15, p16, p17, p18, p19, p20, p21, p22, p23, p24, p25, p26, p27, p28, p29, p30, p31, p32, p33, p34, p35, p36, p37]
  · refine ⟨_, 2, 0, rfl, by omega, by omega, rfl, ?_, ?_, ?_, rfl, by decide⟩
    · simp [Env.get_set, p0, p1, p2, p3, p4, p5, p6, p7, p8, p9, p10, p11, p12, p13, p14, p15, p16, p17, p18, p19, p20, p21, p22, p23, p24, p25, p26, p27, p28, p29, p30, p31, p32, p33, p34, p35, p36, p37, g0]
    · simp [Env.get_set, p0, p1, p2, p3, p4, p5, p6, p7, p8, p9, p10, p11, p12, p13, p14, p15, p16, p17, p18, p19, p20, p21, p22, p23, p24, p25, p26, p27, p28, p29, p30, p31, p32, p33, p34, p35, p36, p37]
    · simp [Env.get_set, p0, p1, p2, p3, p4, p5, p6, p7, p8, p9, p10, p11, p12, p13, p14, p15, p16, p17, p18, p19, p20, p21, p22, p23, p24, p25, p26, p27, p28, p29, p30, p31, p32, p33, p34, p35, p36, p37]
theorem run_rvers (b : ByteArray) : evF prN (k + 3) (.func (.func 11) [] []) [.v (.string b)] .empty = some (.v (.int .i64 (verL b.data.toList).1), .empty) :=
  ev1 (fn := ir11) (by kernel_rfl) (by kernel_rfl) (by kernel_rfl) rfl rfl rfl fun e g => rvers_body b e g
end
end Go.Proofs.YtjlaccjneaomgaaGreatDoor
