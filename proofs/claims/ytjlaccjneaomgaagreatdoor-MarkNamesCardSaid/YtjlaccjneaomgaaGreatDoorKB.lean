/- A sound abstract interpreter for the code of the model: part B of five, joined of smaller texts. -/
import Derived.Test.YtjlaccjneaomgaaGreatDoorKA
import Derived.Laws.Tables
import Derived.Laws.CopyRow
import Derived.Laws.StructEq
import Derived.ChangeKeysEq
import Derived.Laws.BytesString
import Derived.Laws.Slices
import Derived.MapKept
import Derived.Lib.ConvBytes
import Derived.Laws.Cover4
set_option linter.all false
set_option linter.unusedVariables false
set_option linter.unusedSimpArgs false
set_option linter.unusedSectionVars false

/- Soundness of the operations, first part: environments, operands, and what the simple operations yield. -/
namespace Go.Fk
open Go.RowKit (Below)

theorem beq_data (a b : ByteArray) : (a == b) = (a.data.toList == b.data.toList) := by rw [beq_toListBytes, ByteArray.toList_eq, ByteArray.toList_eq]

theorem pth_inj : ∀ (f n m : Nat), n + 1 < 2 ^ f → Pth.ofNat f n = Pth.ofNat f m → n = m
  | 0, n, m, hh, _ => by simp at hh
  | f + 1, n, m, hh, e => by
    simp only [Pth.ofNat] at e
    by_cases h0 : n = 0
    · subst h0
      by_cases k0 : m = 0
      · exact k0.symm
      · simp only [if_true, k0, if_false] at e
        split at e <;> cases e
    · by_cases k0 : m = 0
      · subst k0
        simp only [h0, if_true, if_false] at e
        split at e <;> cases e
      · simp only [h0, k0, if_false] at e
        have hp : 2 ^ (f + 1) = 2 * 2 ^ f := by rw [Nat.pow_succ]; omega
        by_cases h1 : n % 2 = 1 <;> by_cases k1 : m % 2 = 1 <;> simp only [h1, k1, if_true, if_false, Pth.l.injEq, Pth.r.injEq, reduceCtorEq] at e
        · have := pth_inj f _ _ (by omega) e; omega
        · have := pth_inj f _ _ (by omega) e; omega

theorem Env.get_set (e : Env) (p q : Pth) (d : D) : (e.set p d).get q = if q = p then d else e.get q := by
  induction p generalizing e q with
  | h => cases e <;> cases q <;> simp [Env.set, Env.get]
  | l p ih =>
    cases e with
    | nil => cases q <;> simp [Env.set, Env.get, ih]
    | n a b c => cases q <;> simp [Env.set, Env.get, ih]
  | r p ih =>
    cases e with
    | nil => cases q <;> simp [Env.set, Env.get, ih]
    | n a b c => cases q <;> simp [Env.set, Env.get, ih]

def EnvRep (g : G) (e : Env) (tmps : Array Value) : Prop := ∀ t, Rep g (e.get (pth t)) (tmps.getD t undef)

theorem EnvRep.mono {g g' : G} (h : g.le g') {e : Env} {t : Array Value} (r : EnvRep g e t) : EnvRep g' e t := fun i => (r i).mono h

theorem EnvRep.set {g : G} {e : Env} {tmps : Array Value} (r : EnvRep g e tmps) {t : Nat} (ht : t < tmps.size) (hb : t < 4294967296) {d : D} {v : Value} (h : Rep g d v) :
    EnvRep g (e.set (pth t) d) (tmps.setIfInBounds t v) := by
  intro u
  rw [Env.get_set]
  by_cases hu : u = t
  · subst hu
    rw [if_pos rfl]
    simpa [ht] using h
  · have hne : pth u ≠ pth t := fun k => hu (pth_inj 64 t u (by omega) k.symm).symm
    rw [if_neg hne]
    have := r u
    simpa [Array.getElem?_setIfInBounds_ne (Ne.symm hu)] using this

theorem EnvRep.put {g : G} {e : Env} {a : Act} (r : EnvRep g e a.tmps) {dst : Option Tmp} (hd : ∀ t, dst = some t → t < a.tmps.size ∧ t < 4294967296) {d : D} {v : Value} (h : Rep g d v) :
    EnvRep g (setD e (dst.map pth) d) (a.put dst v).tmps := by
  cases dst with
  | none => exact r
  | some t => exact r.set (hd t rfl).1 (hd t rfl).2 h

theorem put_size (a : Act) (dst : Option Tmp) (v : Value) : (a.put dst v).tmps.size = a.tmps.size := by cases dst <;> simp [Act.put]

theorem scalar_single {v : Value} (h : scalarV v = true) : (D.v v).single = true := by
  cases v <;> first | rfl | simp [scalarV] at h

theorem Rep.zval {g : G} {v : Value} (h : constV v = true) : Rep g (zval v) v := by
  cases v <;> first | exact .v _ | skip
  rename_i cs
  refine .agg cs.toList (by simp) (fun i d x a b => ?_) ?_
  · simp only [List.getElem?_map, Option.map_eq_some_iff] at a
    obtain ⟨y, hy, rfl⟩ := a
    rw [hy] at b
    cases b
    exact .v _
  · simp only [constV, List.all_eq_true] at h
    simp only [List.all_map, List.all_eq_true, Function.comp]
    exact fun x hx => scalar_single (h x hx)

theorem cOpd_rep {g : G} {e : Env} {a : Act} (r : EnvRep g e a.tmps) {x : Operand} {o : Opd} (h : cOpd x = some o) : Rep g (o.ev e) (a.eval x) := by
  cases x with
  | tmp t => cases h; exact r t
  | const v =>
    simp only [cOpd] at h
    split at h
    · cases h; exact Rep.zval (by assumption)
    · cases h
  | global n => cases h
  | func f =>
    cases h
    exact .func [] [] rfl (fun i d v a => by simp at a) rfl (fun i d v a => by simp at a)

theorem cOpds_rep {g : G} {e : Env} {a : Act} (r : EnvRep g e a.tmps) : ∀ {xs : List Operand} {os : List Opd}, cOpds xs = some os → RepL g (os.map (·.ev e)) (xs.map a.eval)
  | [], os, h => by cases h; exact .nil
  | x :: xs, os, h => by
    simp only [cOpds] at h
    split at h
    · cases h
      rename_i h1 h2
      exact .cons (cOpd_rep r h1) (cOpds_rep r h2)
    · cases h

/-- What a run comes to, for the abstract state. -/
def Does (P : Program) (m : Sem Value) (g : G) (B : Nat) (w0 : Base) (s s' : St) (w : World) (d : D) : Prop :=
  ∃ v w' g', m.run P w = .ok v w' ∧ Ext s.hn g g' ∧ Inv g' B w0 s' w' ∧ Rep g' d v

theorem Does.of {P : Program} {m : Sem Value} {g : G} {B : Nat} {w0 : Base} {s : St} {w : World} {d : D} {v : Value} (hi : Inv g B w0 s w) (h : m.run P w = .ok v w) (r : Rep g d v) : Does P m g B w0 s s w d :=
  ⟨v, w, g, h, Ext.refl _ _, hi, r⟩

theorem run_under {P : Program} {t : TypeId} {d : TypeDesc} (h : P.underlying t = some d) (w : World) : (underlying t).run P w = .ok d w := by simp [underlying, h]
theorem run_size {P : Program} {t : TypeId} {n : Nat} (h : tSize P t = some n) (w : World) : (sizeOf t).run P w = .ok n w := by
  simp only [tSize, Option.map_eq_some_iff] at h
  obtain ⟨i, h1, rfl⟩ := h
  simp [sizeOf, typeInfo, h1]
theorem tZero_spec {P : Program} {t : TypeId} {z : Value} (h : tZero P t = some z) : constV z = true ∧ ∃ i, P.info? t = some i ∧ i.zero = some z := by
  unfold tZero at h
  split at h
  · rename_i z' h1
    split at h
    · cases h
      refine ⟨by assumption, ?_⟩
      cases hi : P.info? t with
      | none => simp [hi] at h1
      | some i => exact ⟨i, rfl, by simpa [hi] using h1⟩
    · cases h
  · cases h
theorem run_zero {P : Program} {t : TypeId} {z : Value} (h : tZero P t = some z) (w : World) : (zeroValue t).run P w = .ok z w := by
  obtain ⟨_, i, h1, h2⟩ := tZero_spec h
  simp [zeroValue, typeInfo, h1, h2]
theorem run_isAgg {P : Program} {t : TypeId} {b : Bool} (h : uAgg P t = some b) (w : World) : (isAgg t).run P w = .ok b w := by
  unfold uAgg at h
  split at h <;> cases h
  · rename_i fs hu; simp [isAgg, run_under hu]
  · rename_i n e hu; simp [isAgg, run_under hu]
  · rename_i d h1 h2 hu
    cases d <;> first | (simp [isAgg, run_under hu]; done) | exact absurd rfl (h1 _) | exact absurd rfl (h2 _ _)

theorem addr_add (b o n : Nat) : (⟨b, o, none⟩ : Addr).add n = ⟨b, o + n, none⟩ := by
  unfold Addr.add
  split
  · subst_vars; rfl
  · rfl

/-- Cells of one row, loaded. -/
theorem run_loadVar_cells {P : Program} {w : World} {t : TypeId} {ag : Bool} {n b o : Nat} {cs : List Value} {d : D} {g : G} {ds : List D} {off : Nat}
    (ha : uAgg P t = some ag) (hn : tSize P t = some n) (hc : ∀ j c, cs[j]? = some c → w.cell? ⟨b, o + j, none⟩ = some c) (hr : RepL g ds cs) (hs : ds.all (·.single) = true)
    (h : loadD ag n ds off = some d) : ∃ v, (loadVar t ⟨b, o + off, none⟩).run P w = .ok v w ∧ Rep g d v := by
  unfold loadD at h
  cases ag with
  | true =>
    simp only [if_true, Option.map_eq_some_iff] at h
    obtain ⟨ds', h1, rfl⟩ := h
    unfold cut at h1
    split at h1
    · rename_i hle
      cases h1
      have hr' := (hr.drop off).take n
      have hlen : ((cs.drop off).take n).length = n := by rw [hr'.1]; simp; omega
      refine ⟨.agg ((cs.drop off).take n).toArray, ?_, ?_⟩
      · have := run_loadCells_list (P := P) w ⟨b, o + off, none⟩ ((cs.drop off).take n) (fun j v k => by
          rw [addr_add]
          rw [List.getElem?_take] at k
          split at k
          · rw [List.getElem?_drop] at k
            have := hc _ _ k
            rw [show o + off + j = o + (off + j) from by omega]
            exact this
          · cases k)
        rw [hlen] at this
        simp [loadVar, run_isAgg ha, run_size hn, this]
      · refine .agg _ hr'.1 hr'.2 ?_
        simp only [List.all_eq_true] at *
        exact fun x hx => hs x (List.mem_of_mem_drop (List.mem_of_mem_take hx))
    · cases h1
  | false =>
    simp only [Bool.false_eq_true, if_false] at h
    obtain ⟨v, hv, hr'⟩ := hr.get h
    exact ⟨v, by simp [loadVar, run_isAgg ha, hc _ _ hv], hr'⟩

theorem does_load {P : Program} {g : G} {B : Nat} {w0 : Base} {s : St} {w : World} (hi : Inv g B w0 s w) {t : TypeId} {ag : Bool} {n : Nat} {da d : D} {va : Value}
    (ha : uAgg P t = some ag) (hn : tSize P t = some n) (hr : Rep g da va)
    (h : loadQ s ag n da = some d) : Does P (Instr.loadAt t va) g B w0 s s w d := by
  cases hr with
  | @ptr id off b hb =>
    simp only [loadQ] at h
    split at h
    · rename_i ds hg
      obtain ⟨cs, el, e1, e2, e3⟩ := hi.obj id _ b hg hb
      obtain ⟨v, h1, h2⟩ := run_loadVar_cells (P := P) (w := w) (b := b) (o := 0) ha hn (fun j c k => by
        rw [cell_of_row _ _ _ _ _ _ e1]; simpa using k) e2 e3 h
      exact Does.of hi (by simp only [Instr.loadAt, Instr.sureAddr, Sem.run_bind, Sem.run_pure, Result.andThen_ok]; simpa using h1) h2
    · cases h
  | @lptr xs i off b o sz vs hl hx hrow =>
    simp only [loadQ] at h
    split at h
    · rename_i dx hdx
      obtain ⟨vx, hvx, hrx⟩ := RepL.get (g := g) ⟨hl, hx⟩ hdx
      have hcell : ∀ j c, vx.cells.toList[j]? = some c → w.cell? ⟨b, o + i * sz + j, none⟩ = some c := fun j c k => hi.imm _ _ _ ((hrow.2 i vx hvx).2 j c (by simpa using k))
      unfold loadE at h
      split at h
      · rename_i hsg
        have main : loadD ag n dx.cells off = some d → Does P (Instr.loadAt t (.pointer (some ⟨b, o + i * sz + off, none⟩))) g B w0 s s w d := fun hld => by
          obtain ⟨v, h1, h2⟩ := run_loadVar_cells (P := P) (w := w) (b := b) (o := o + i * sz) ha hn hcell (hrx.cells hsg) hsg hld
          exact Does.of hi (by simp only [Instr.loadAt, Instr.sureAddr, Sem.run_bind, Sem.run_pure, Result.andThen_ok]; exact h1) h2
        split at h
        · rename_i hcond
          simp only [Bool.and_eq_true, beq_iff_eq] at hcond
          obtain ⟨⟨h1, h2⟩, h3⟩ := hcond
          refine main ?_
          subst h1; subst h2
          simp only [loadD, if_true, cut, h3, Nat.zero_add, Nat.le_refl, List.drop_zero, Option.map_some]
          rw [← h, ← h3, List.take_length]
        · exact main h
      · cases h
    · cases h
  | _ => cases h

end Go.Fk

/- Soundness of the operations, second part: what only computes. -/
namespace Go.Fk
open Go.RowKit (Below)
section
variable {P : Program} {g : G} {B : Nat} {w0 : Base} {s : St} {w : World}

/-! ### Building structs and arrays -/
theorem foldl_put (off : Nat) : ∀ (l : List Value) (k : Nat) (cs : Array Value), off + k + l.length ≤ cs.size →
    ((l.zipIdx k).foldl (fun cs (c, j) => cs.setIfInBounds (off + j) c) cs).toList = cs.toList.take (off + k) ++ l ++ cs.toList.drop (off + k + l.length)
  | [], k, cs, _ => by simp
  | x :: r, k, cs, h => by
    simp only [List.length_cons] at h
    simp only [List.zipIdx_cons, List.foldl_cons]
    rw [foldl_put off r (k + 1) (cs.setIfInBounds (off + k) x) (by simp; omega)]
    simp only [Array.toList_setIfInBounds]
    apply List.ext_getElem?
    intro i
    have hlen : cs.toList.length = cs.size := by simp
    rw [List.getElem?_append, List.getElem?_append, List.getElem?_append, List.getElem?_append]
    simp only [List.length_append, List.length_take, List.length_set, List.length_cons, List.getElem?_drop, List.getElem?_take, List.getElem?_set, hlen]
    by_cases h1 : i < off + k
    · have e1 : i < min (off + (k + 1)) cs.size := by omega
      have e2 : i < min (off + k) cs.size := by omega
      have e3 : i < min (off + (k + 1)) cs.size + r.length := by omega
      have e4 : i < min (off + k) cs.size + (r.length + 1) := by omega
      have e5 : off + k ≠ i := by omega
      have e6 : i < off + (k + 1) := by omega
      simp [e1, e2, e3, e4, e5, e6, h1]
    · by_cases h2 : i = off + k
      · subst h2
        have e1 : off + k < min (off + (k + 1)) cs.size := by omega
        have e2 : ¬ off + k < min (off + k) cs.size := by omega
        have e3 : off + k < min (off + (k + 1)) cs.size + r.length := by omega
        have e4 : off + k < min (off + k) cs.size + (r.length + 1) := by omega
        have e5 : off + k < cs.size := by omega
        have e6 : off + k < off + (k + 1) := by omega
        have e7 : off + k - min (off + k) cs.size = 0 := by omega
        simp only [e1, e2, e3, e4, e5, e6, e7, if_true, if_false]
        rfl
      · have e1 : ¬ i < min (off + (k + 1)) cs.size := by omega
        have e2 : ¬ i < min (off + k) cs.size := by omega
        have m1 : min (off + (k + 1)) cs.size = off + k + 1 := by omega
        have m2 : min (off + k) cs.size = off + k := by omega
        by_cases h3 : i < off + k + 1 + r.length
        · have e3 : i < min (off + (k + 1)) cs.size + r.length := by omega
          have e4 : i < min (off + k) cs.size + (r.length + 1) := by omega
          simp only [e1, e2, e3, e4, if_true, if_false]
          rw [m1, m2, show i - (off + k) = (i - (off + k + 1)) + 1 from by omega]
          simp
        · have e3 : ¬ i < min (off + (k + 1)) cs.size + r.length := by omega
          have e4 : ¬ i < min (off + k) cs.size + (r.length + 1) := by omega
          simp only [e3, e4, if_false]
          rw [m1, m2]
          have e5 : off + k ≠ off + (k + 1) + r.length + (i - (off + k + 1 + r.length)) := by omega
          rw [if_neg e5]
          congr 1
          omega

theorem put_rep {cs : List D} {vs : List Value} (r : RepL g cs vs) {new : List D} {us : List Value} (k : RepL g new us) {off : Nat} {ds : List D} (h : put cs new off = some ds) :
    off + us.length ≤ vs.length ∧ RepL g ds (vs.take off ++ us ++ vs.drop (off + us.length)) := by
  unfold put at h
  split at h
  · rename_i hle
    cases h
    refine ⟨by rw [k.1, r.1]; exact hle, ?_⟩
    rw [k.1]
    exact ((r.take off).append k).append (r.drop _)
  · cases h
theorem put_single {cs new ds : List D} {off : Nat} (h : put cs new off = some ds) (a : cs.all (·.single) = true) (b : new.all (·.single) = true) : ds.all (·.single) = true := by
  unfold put at h
  split at h
  · cases h
    simp only [List.all_append, Bool.and_eq_true, b, and_true]
    simp only [List.all_eq_true] at *
    exact ⟨fun x hx => a x (List.mem_of_mem_take hx), fun x hx => a x (List.mem_of_mem_drop hx)⟩
  · cases h

theorem fill_rep (place : Nat → Option (Nat × Nat)) {e : Env} {a : Act} (he : EnvRep g e a.tmps) : ∀ (parts : List (Nat × Operand)) (ps : List (Nat × Nat × Opd)) (ds : List D) (vs : Array Value) (ds' : List D),
    cParts place parts = some ps → RepL g ds vs.toList → ds.all (·.single) = true → fillL ds (ps.map fun (o, n, x) => (o, n, x.ev e)) = some ds' →
    ∃ vs', Instr.fill place vs (parts.map fun (i, x) => (i, a.eval x)) = some vs' ∧ RepL g ds' vs'.toList ∧ ds'.all (·.single) = true
  | [], ps, ds, vs, ds', hp, hr, hs, h => by
    cases hp
    simp only [List.map_nil, fillL] at h
    cases h
    exact ⟨vs, rfl, hr, hs⟩
  | (i, x) :: r, ps, ds, vs, ds', hp, hr, hs, h => by
    simp only [cParts] at hp
    split at hp
    · cases hp
      rename_i o n x' r' h1 h2 h3
      simp only [List.map_cons, fillL] at h
      split at h
      · rename_i hc
        split at h
        · rename_i ds1 hput
          have hx := cOpd_rep he h2
          have hcells := hx.cells hc.2
          have hpr := put_rep hr hcells hput
          have hsz : (a.eval x).cells.size = n := by have := hcells.1; simp at this; omega
          have hle : ¬ o + (a.eval x).cells.size > vs.size := by have := hpr.1; simp at this; omega
          have key : ((a.eval x).cells.zipIdx.foldl (fun cs (c, j) => cs.setIfInBounds (o + j) c) vs).toList =
              vs.toList.take o ++ (a.eval x).cells.toList ++ vs.toList.drop (o + (a.eval x).cells.toList.length) := by
            rw [← Array.foldl_toList, Array.toList_zipIdx]
            have := foldl_put o (a.eval x).cells.toList 0 vs (by simp; omega)
            simpa using this
          obtain ⟨vs', f1, f2, f3⟩ := fill_rep place he r r' ds1 ((a.eval x).cells.zipIdx.foldl (fun cs (c, j) => cs.setIfInBounds (o + j) c) vs) ds' h3 (by rw [key]; exact hpr.2) (put_single hput hs hc.2) h
          refine ⟨vs', ?_, f2, f3⟩
          simp only [List.map_cons, Instr.fill, h1]
          rw [if_neg (by simp [hsz]; rw [hsz] at hle; omega)]
          exact f1
        · cases h
      · cases h
    · cases hp

theorem constV_cells {z : Value} (h : constV z = true) : RepL g (z.cells.toList.map .v) z.cells.toList ∧ (z.cells.toList.map D.v).all (·.single) = true := by
  refine ⟨RepL.v _, ?_⟩
  cases z with
  | agg cs =>
    simp only [constV, List.all_eq_true] at h
    simp only [Value.cells, List.all_map, List.all_eq_true, Function.comp]
    exact fun x hx => scalar_single (h x hx)
  | _ => simp only [constV] at h; simp [Value.cells, scalar_single h]

theorem does_build (hi : Inv g B w0 s w) {e : Env} {a : Act} (he : EnvRep g e a.tmps) {mt : Bool} {t : TypeId} {parts : Array (Nat × Operand)} {op : IOp} {d : D} {call : D → List D → St → Option (D × St)} {pure : D → Bool}
    (hop : cOp P mt (.build t parts) = some op) (h : evQ e s call pure op = some d) :
    Does P (Instr.build t (parts.map fun (i, x) => (i, a.eval x))) g B w0 s s w d := by
  simp only [cOp] at hop
  split at hop
  · rename_i z fs hz hu
    split at hop
    · cases hop
    · rename_i hall
      simp only [Option.map_eq_some_iff] at hop
      obtain ⟨ps, hps, rfl⟩ := hop
      simp only [evQ, Option.map_eq_some_iff] at h
      obtain ⟨ds', hf, rfl⟩ := h
      obtain ⟨hc, it, hit, hzz⟩ := tZero_spec hz
      obtain ⟨vs', f1, f2, f3⟩ := fill_rep _ he parts.toList ps _ z.cells ds' hps (constV_cells hc).1 (constV_cells (g := g) hc).2 hf
      simp only [Bool.not_eq_true', Bool.not_eq_false, List.all_eq_true] at hall
      have hplaces : ∃ places, fs.toList.mapM (fun f => (P.info? f.type).map fun i => (f.offset, i.size)) = some places ∧
          (fun (i : Nat) => places.toArray[i]?) = (fun (i : Nat) => match fs[i]? with | some (f : Field) => (tSize P f.type).map fun n => (f.offset, n) | none => none) := by
        have gen : ∀ (l : List Field), (∀ f ∈ l, (tSize P f.type).isSome = true) → ∃ places, l.mapM (fun f => (P.info? f.type).map fun i => (f.offset, i.size)) = some places ∧
            ∀ (i : Nat), places[i]? = (match l[i]? with | some (f : Field) => (tSize P f.type).map fun n => (f.offset, n) | none => none) := by
          intro l
          induction l with
          | nil => intro _; exact ⟨[], rfl, fun i => by simp⟩
          | cons f r ih =>
            intro hl
            obtain ⟨pl, h1, h2⟩ := ih fun x hx => hl x (by simp [hx])
            have hf := hl f (by simp)
            simp only [tSize, Option.isSome_map] at hf
            obtain ⟨info, hinfo⟩ := Option.isSome_iff_exists.1 hf
            refine ⟨(f.offset, info.size) :: pl, by simp [List.mapM_cons, hinfo, h1], fun i => ?_⟩
            cases i with
            | zero => simp [tSize, hinfo]
            | succ i => simpa using h2 i
        obtain ⟨pl, h1, h2⟩ := gen fs.toList hall
        exact ⟨pl, h1, funext fun i => by simpa using h2 i⟩
      obtain ⟨places, hpl, hfun⟩ := hplaces
      have hb : P.built t (parts.map fun (i, x) => (i, a.eval x)).toList = some vs' := by
        unfold Program.built
        simp only [hit, hu, hzz, hpl]
        rw [hfun, Array.toList_map]
        exact f1
      refine Does.of hi (run_build w t _ vs' hb) ?_
      have := Rep.agg (g := g) vs'.toList f2.1 f2.2 f3
      simpa using this
  · rename_i z n el hz hu
    split at hop
    · rename_i sz hsz
      simp only [Option.map_eq_some_iff] at hop
      obtain ⟨ps, hps, rfl⟩ := hop
      simp only [evQ, Option.map_eq_some_iff] at h
      obtain ⟨ds', hf, rfl⟩ := h
      obtain ⟨hc, it, hit, hzz⟩ := tZero_spec hz
      obtain ⟨vs', f1, f2, f3⟩ := fill_rep _ he parts.toList ps _ z.cells ds' hps (constV_cells hc).1 (constV_cells (g := g) hc).2 hf
      simp only [tSize, Option.map_eq_some_iff] at hsz
      obtain ⟨ie, hie, rfl⟩ := hsz
      have hb : P.built t (parts.map fun (i, x) => (i, a.eval x)).toList = some vs' := by
        unfold Program.built
        simp only [hit, hu, hzz, hie]
        simpa using f1
      refine Does.of hi (run_build w t _ vs' hb) ?_
      have := Rep.agg (g := g) vs'.toList f2.1 f2.2 f3
      simpa using this
    · cases hop
  · cases hop

/-! ### Scalars -/
theorem eql_bool {t : TypeId} (m n : Bool) (hu : P.underlying t = some .bool) : (binOp .eql t (.bool m) (.bool n)).run P w = .ok (.bool (m == n)) w := by
  have := run_equalIn_bool' (P := P) w 9999 t m n hu
  show ((do Pure.pure (Value.bool (← Op.equal t (.bool m) (.bool n)))) : Sem Value).run P w = _
  simp only [Op.equal, Op.maxDepth, Sem.run_bind, this, Sem.run_pure, Result.andThen_ok]
theorem neq_bool {t : TypeId} (m n : Bool) (hu : P.underlying t = some .bool) : (binOp .neq t (.bool m) (.bool n)).run P w = .ok (.bool (!(m == n))) w := by
  have := run_equalIn_bool' (P := P) w 9999 t m n hu
  show ((do Pure.pure (Value.bool (!(← Op.equal t (.bool m) (.bool n))))) : Sem Value).run P w = _
  simp only [Op.equal, Op.maxDepth, Sem.run_bind, this, Sem.run_pure, Result.andThen_ok]

theorem ltI_eq (a b : Int) : ltI a b = decide (a < b) := by
  cases a with
  | ofNat a => cases b with
    | ofNat b => simp only [ltI, Nat.blt]; rw [Bool.eq_iff_iff]; simp; omega
    | negSucc b => simp only [ltI]; symm; rw [decide_eq_false_iff_not]; show ¬ ((a : Int) < Int.negSucc b); omega
  | negSucc a => cases b with
    | ofNat b => simp only [ltI]; symm; rw [decide_eq_true_eq]; show Int.negSucc a < (b : Int); omega
    | negSucc b => simp only [ltI, Nat.blt]; rw [Bool.eq_iff_iff]; simp; omega

theorem run_binV {op : BinOp} {t : TypeId} {x y : Operand} {a b r : Value} (h : binV op a b = some r) :
    (do eqGuard op t x y a b; binOp op t a b : Sem Value).run P w = .ok r w := by
  have guard : (eqGuard op t x y a b) = pure () := by
    cases a <;> first
      | exact eqGuard_at_int _ _ _ _ _ _ _
      | exact eqGuard_at_string _ _ _ _ _ _
      | (cases op <;> simp [binV] at h)
  rw [guard]
  show (binOp op t a b).run P w = .ok r w
  cases a with
  | int k m =>
    cases b with
    | int k' n =>
      by_cases hs : op = .shl ∨ op = .shr
      · rcases hs with rfl | rfl <;> simp only [binV] at h <;> split at h <;> cases h <;> (rename_i hn; simp [binOp, Op.shift, hn])
      · have hk : k = k' := by
          cases op <;> first | (exfalso; exact hs (.inl rfl)) | (exfalso; exact hs (.inr rfl)) | (simp only [binV] at h; split at h <;> first | (cases h; done) | (rename_i hk; simpa using hk))
        subst hk
        cases op <;> first
          | (exfalso; exact hs (.inl rfl))
          | (exfalso; exact hs (.inr rfl))
          | (simp only [binV, ne_eq, not_true, if_false, Option.some.injEq] at h; subst h; simp [binOp, Op.intArith, Op.intBits, Op.intCmp, ltI_eq] <;> (rw [Bool.eq_iff_iff]; simp))
          | (simp only [binV, ne_eq, not_true, if_false] at h; split at h <;> cases h; rename_i hn; simp [binOp, Op.intDiv, hn])
          | (simp [binV] at h)
    | _ => cases op <;> simp [binV] at h
  | string m =>
    cases b with
    | string n =>
      cases op <;> simp only [binV] at h <;> first
        | (cases h; done)
        | (split at h
           · rename_i hle
             cases h
             have : ¬ ((m.size + n.size : Nat) : Int) > IntKind.i64.max := by simp; omega
             simp only [binOp, Op.stringOp]
             rw [if_neg this]
             rfl
           · cases h)
        | (cases h; simp [binOp, Op.stringOp, ByteArray.toList_eq])
    | _ => cases op <;> simp [binV] at h
  | _ => cases op <;> simp [binV] at h

theorem run_unV {op : UnOp} {a r : Value} (h : unV op a = some r) : (Op.unary op a).run P w = .ok r w := by
  cases op <;> cases a <;> simp only [unV] at h <;> first | (cases h; done) | (cases h; simp [Op.unary, Op.intArith, Op.intBits])

end
end Go.Fk

/- Soundness of the operations, third part: equality. -/
namespace Go.Fk
open Go.RowKit (Below)
section
variable {P : Program} {g : G} {w : World}

/-! ### Equality with nil -/
def refTy : RefK → TypeDesc → Prop
  | .ptr, .pointer _ => True
  | .map, .map _ _ => True
  | .func, .func _ _ _ => True
  | .slice, .slice _ => True
  | .iface, .interface _ => True
  | _, _ => False
def NN : RefK → Bool → Value → Prop
  | .ptr, b, v => ∃ a, v = .pointer a ∧ a.isNone = b
  | .map, b, v => ∃ a, v = .map a ∧ a.isNone = b
  | .slice, b, v => ∃ a l c, v = .slice a l c ∧ a.isNone = b
  | .func, b, v => if b then v = .nilFunc else ∃ f x y, v = .func f x y
  | .iface, b, v => if b then v = .nilIface else ∃ t x, v = .iface t x

theorem nilK_rep {k : RefK} {d : D} {v : Value} {b : Bool} (h : nilK k d = some b) (r : Rep g d v) : NN k b v := by
  unfold nilK at h
  split at h <;> first | (cases h; done) | skip
  all_goals cases h
  all_goals cases r
  all_goals first
    | exact ⟨_, rfl, rfl⟩
    | exact ⟨_, _, _, rfl, rfl⟩
    | rfl
    | exact ⟨_, _, _, rfl⟩
    | exact ⟨_, _, rfl⟩

theorem run_eqRef {k : RefK} {t : TypeId} {d : TypeDesc} (hu : P.underlying t = some d) (hd : refTy k d) {x y : Value} {b c : Bool} (hx : NN k b x) (hy : NN k c y) (hbc : b = true ∨ c = true) (m : Nat) :
    (Op.equalIn (m + 1) t x y).run P w = .ok (b && c) w := by
  cases k
  case ptr =>
    cases d <;> first | exact hd.elim | skip
    obtain ⟨a, rfl, rfl⟩ := hx
    obtain ⟨a', rfl, rfl⟩ := hy
    cases a <;> cases a' <;> first | (simp at hbc; done) | (simp [Op.equalIn, run_under hu]; done)
  case map =>
    cases d <;> first | exact hd.elim | skip
    obtain ⟨a, rfl, rfl⟩ := hx
    obtain ⟨a', rfl, rfl⟩ := hy
    cases a <;> cases a' <;> first | (simp at hbc; done) | (simp [Op.equalIn, run_under hu]; done)
  case slice =>
    cases d <;> first | exact hd.elim | skip
    obtain ⟨a, l1, c1, rfl, rfl⟩ := hx
    obtain ⟨a', l2, c2, rfl, rfl⟩ := hy
    cases a <;> cases a' <;> first | (simp at hbc; done) | (simp [Op.equalIn, run_under hu]; done)
  case func =>
    cases d <;> first | exact hd.elim | skip
    cases b <;> cases c <;> simp only [NN, if_true, Bool.false_eq_true, if_false] at hx hy
    · simp at hbc
    · obtain ⟨f, p, q, rfl⟩ := hx; subst hy; simp [Op.equalIn, run_under hu]
    · obtain ⟨f, p, q, rfl⟩ := hy; subst hx; simp [Op.equalIn, run_under hu]
    · subst hx; subst hy; simp [Op.equalIn, run_under hu]
  case iface =>
    cases d <;> first | exact hd.elim | skip
    cases b <;> cases c <;> simp only [NN, if_true, Bool.false_eq_true, if_false] at hx hy
    · simp at hbc
    · obtain ⟨f, p, rfl⟩ := hx; subst hy; simp [Op.equalIn, run_under hu]
    · obtain ⟨f, p, rfl⟩ := hy; subst hx; simp [Op.equalIn, run_under hu]
    · subst hx; subst hy; simp [Op.equalIn, run_under hu]

theorem binOp_ref {k : RefK} {t : TypeId} {x y : Value} {b c : Bool} (hx : NN k b x) (hy : NN k c y) :
    binOp .eql t x y = (do pure (.bool (← Op.equal t x y))) ∧ binOp .neq t x y = (do pure (.bool (!(← Op.equal t x y)))) := by
  cases k
  case ptr => obtain ⟨a, rfl, rfl⟩ := hx; obtain ⟨a', rfl, rfl⟩ := hy; exact ⟨rfl, rfl⟩
  case map => obtain ⟨a, rfl, rfl⟩ := hx; obtain ⟨a', rfl, rfl⟩ := hy; exact ⟨rfl, rfl⟩
  case slice => obtain ⟨a, _, _, rfl, rfl⟩ := hx; obtain ⟨a', _, _, rfl, rfl⟩ := hy; exact ⟨rfl, rfl⟩
  case func =>
    cases b <;> cases c <;> simp only [NN, if_true, Bool.false_eq_true, if_false] at hx hy
    · obtain ⟨f, p, q, rfl⟩ := hx; obtain ⟨f, p, q, rfl⟩ := hy; exact ⟨rfl, rfl⟩
    · obtain ⟨f, p, q, rfl⟩ := hx; subst hy; exact ⟨rfl, rfl⟩
    · obtain ⟨f, p, q, rfl⟩ := hy; subst hx; exact ⟨rfl, rfl⟩
    · subst hx; subst hy; exact ⟨rfl, rfl⟩
  case iface =>
    cases b <;> cases c <;> simp only [NN, if_true, Bool.false_eq_true, if_false] at hx hy
    · obtain ⟨f, q, rfl⟩ := hx; obtain ⟨f, q, rfl⟩ := hy; exact ⟨rfl, rfl⟩
    · obtain ⟨f, q, rfl⟩ := hx; subst hy; exact ⟨rfl, rfl⟩
    · obtain ⟨f, q, rfl⟩ := hy; subst hx; exact ⟨rfl, rfl⟩
    · subst hx; subst hy; exact ⟨rfl, rfl⟩

theorem eqGuard_ref {k : RefK} {op : BinOp} {t : TypeId} {xo yo : Operand} {x y : Value} {b c : Bool} (hx : NN k b x) (hy : NN k c y)
    (hk : k = .iface → (∃ v, xo = .const v) ∨ ∃ v, yo = .const v) : eqGuard op t xo yo x y = pure () := by
  cases k
  case ptr => obtain ⟨a, rfl, rfl⟩ := hx; exact eqGuard_at_pointer _ _ _ _ _ _
  case map => obtain ⟨a, rfl, rfl⟩ := hx; exact eqGuard_at_map _ _ _ _ _ _
  case slice => obtain ⟨a, _, _, rfl, rfl⟩ := hx; exact eqGuard_at_slice _ _ _ _ _ _ _ _
  case func =>
    cases b <;> simp only [NN, if_true, Bool.false_eq_true, if_false] at hx
    · obtain ⟨f, p, q, rfl⟩ := hx; exact eqGuard_at_func _ _ _ _ _ _ _ _
    · subst hx; exact eqGuard_at_nilFunc _ _ _ _ _
  case iface =>
    cases b <;> cases c <;> simp only [NN, if_true, Bool.false_eq_true, if_false] at hx hy
    · obtain ⟨f, q, rfl⟩ := hx; exact eqGuard_at_iface _ _ _ _ _ _ _
    · obtain ⟨f, q, rfl⟩ := hx; exact eqGuard_at_iface _ _ _ _ _ _ _
    · obtain ⟨f, q, rfl⟩ := hy; subst hx; exact eqGuard_nil_iface _ _ _ _ _ _
    · subst hx; subst hy
      rcases hk rfl with ⟨v, rfl⟩ | ⟨v, rfl⟩
      · exact eqGuard_nil_constL _ _ _ _
      · exact eqGuard_nil_constR _ _ _ _

/-! ### Equality of structs of scalars -/
theorem veq_v {k : SK} {a b : D} {r : Bool} (h : veq k a b = some r) : ∃ x y, a = .v x ∧ b = .v y := by
  unfold veq at h
  split at h <;> first | exact ⟨_, _, rfl, rfl⟩ | cases h

theorem veqs_append : ∀ {ks ls : List SK} {a c b d : List D} {r : Bool}, a.length = ks.length → c.length = ks.length → veqs (ks ++ ls) (a ++ b) (c ++ d) = some r →
    ∃ r1 r2, veqs ks a c = some r1 ∧ veqs ls b d = some r2 ∧ r = (r1 && r2)
  | [], ls, [], [], b, d, r, _, _, h => ⟨true, r, rfl, h, by simp⟩
  | k :: ks, ls, x :: a, y :: c, b, d, r, h1, h2, h => by
    simp only [List.cons_append, veqs] at h
    split at h
    · rename_i p q e1 e2
      cases h
      obtain ⟨r1, r2, f1, f2, f3⟩ := veqs_append (by simpa using h1) (by simpa using h2) e2
      exact ⟨p && r1, r2, by simp [veqs, e1, f1], f2, by rw [f3, Bool.and_assoc]⟩
    · cases h
  | [], _, _ :: _, _, _, _, _, h, _, _ => by simp at h
  | [], _, [], _ :: _, _, _, _, _, h, _ => by simp at h
  | _ :: _, _, [], _, _, _, _, h, _, _ => by simp at h
  | _ :: _, _, _ :: _, [], _, _, _, _, h, _ => by simp at h

theorem veqs_length : ∀ {ks : List SK} {a b : List D} {r : Bool}, veqs ks a b = some r → a.length = ks.length ∧ b.length = ks.length
  | [], [], [], _, _ => ⟨rfl, rfl⟩
  | k :: ks, x :: a, y :: b, r, h => by
    simp only [veqs] at h
    split at h
    · rename_i e; obtain ⟨e1, e2⟩ := veqs_length e; exact ⟨by simp [e1], by simp [e2]⟩
    · cases h
  | [], _ :: _, _, _, h => by simp [veqs] at h
  | [], [], _ :: _, _, h => by simp [veqs] at h
  | _ :: _, [], _, _, h => by simp [veqs] at h
  | _ :: _, _ :: _, [], _, h => by simp [veqs] at h

/-- A value of a type, out of its cells. -/
def valOf (P : Program) (t : TypeId) (cs : List Value) : Value :=
  match P.underlying t with
  | some (.struct _) => .agg cs.toArray
  | _ => (cs[0]?).getD undef

theorem flatOne {d : Nat} {t : TypeId} {ks : List SK} (h : flat P d t = some ks) : (∃ fs, P.underlying t = some (.struct fs)) ∨ (uAgg P t = some false ∧ ∃ k, ks = [k] ∧
    ((k = .b ∧ P.underlying t = some .bool) ∨ (k = .i ∧ ∃ j, P.underlying t = some (.int j)) ∨ (k = .s ∧ P.underlying t = some .string))) := by
  cases d with
  | zero => cases h
  | succ d =>
    simp only [flat] at h
    split at h
    · rename_i hu; cases h; exact .inr ⟨by simp [uAgg, hu], .b, rfl, .inl ⟨rfl, hu⟩⟩
    · rename_i j hu; cases h; exact .inr ⟨by simp [uAgg, hu], .i, rfl, .inr (.inl ⟨rfl, j, hu⟩)⟩
    · rename_i hu; cases h; exact .inr ⟨by simp [uAgg, hu], .s, rfl, .inr (.inr ⟨rfl, hu⟩)⟩
    · rename_i fs hu; exact .inl ⟨fs, hu⟩
    · cases h

theorem run_part_val {d : Nat} {t : TypeId} {ks : List SK} (h : flat P d t = some ks) {off : Nat} {cs : Array Value} (hn : tSize P t = some ks.length) (hle : off + ks.length ≤ cs.size) :
    (part t cs off).run P w = .ok (valOf P t ((cs.toList.drop off).take ks.length)) w := by
  rcases flatOne h with ⟨fs, hu⟩ | ⟨ha, k, rfl, hk⟩
  · have hv : valOf P t ((cs.toList.drop off).take ks.length) = .agg ((cs.toList.drop off).take ks.length).toArray := by unfold valOf; rw [hu]
    have ha : uAgg P t = some true := by simp [uAgg, hu]
    rw [hv]
    simp only [part, Sem.run_bind, run_isAgg ha, Result.andThen_ok, if_true, run_size hn, Sem.run_pure]
    congr 2
    apply Array.ext'
    simp [Array.toList_extract, List.extract_eq_take_drop]
  · simp only [List.length_cons, List.length_nil, Nat.zero_add] at hle ⊢
    have hlt : off < cs.size := by omega
    have hv : valOf P t ((cs.toList.drop off).take 1) = cs[off] := by
      have e : ((cs.toList.drop off).take 1)[0]? = some cs[off] := by
        rw [List.getElem?_take, if_pos (by omega), List.getElem?_drop]
        simp [hlt]
      unfold valOf
      rcases hk with ⟨_, hu⟩ | ⟨_, j, hu⟩ | ⟨_, hu⟩ <;> rw [hu] <;> simp [e]
    rw [hv]
    simp [part, run_isAgg ha, hlt]

theorem run_eqFields {dd : Nat} (fl : TypeId → Option (List SK)) (hfl : ∀ t ks, fl t = some ks → ∃ d, flat P d t = some ks)
    (ih : ∀ t ks, fl t = some ks → ∀ (xs ys : List Value) (b : Bool), veqs ks (xs.map .v) (ys.map .v) = some b → (Op.equalIn dd t (valOf P t xs) (valOf P t ys)).run P w = .ok b w) :
    ∀ (fs : List Field) (n : Nat) (ks : List SK), flatFs P fl fs n = some ks → ∀ (xs ys : Array Value) (b : Bool), xs.size = n + ks.length → ys.size = n + ks.length →
      veqs ks ((xs.toList.drop n).map .v) ((ys.toList.drop n).map .v) = some b → (Op.eqFields dd xs ys fs).run P w = .ok b w
  | [], n, ks, h, xs, ys, b, hx, hy, hv => by
    cases h
    have e1 : xs.toList.drop n = [] := List.drop_eq_nil_of_le (by simp at hx ⊢; omega)
    have e2 : ys.toList.drop n = [] := List.drop_eq_nil_of_le (by simp at hy ⊢; omega)
    rw [e1, e2] at hv
    cases hv
    simp [Op.eqFields]
  | f :: fs, n, ks, h, xs, ys, b, hx, hy, hv => by
    simp only [flatFs] at h
    split at h
    · rename_i hc
      obtain ⟨hoff, hname⟩ := hc
      split at h
      · rename_i k hk
        split at h
        · rename_i hsz
          simp only [Option.map_eq_some_iff] at h
          obtain ⟨ls, hls, rfl⟩ := h
          simp only [List.length_append] at hx hy
          obtain ⟨d, hd⟩ := hfl _ _ hk
          have split1 : ∀ (zs : Array Value), (zs.toList.drop n).map D.v = ((zs.toList.drop n).take k.length).map D.v ++ (zs.toList.drop (n + k.length)).map D.v := fun zs => by
            rw [← List.map_append]
            congr 1
            rw [← List.drop_drop]
            exact (List.take_append_drop _ _).symm
          rw [split1, split1] at hv
          obtain ⟨r1, r2, h1, h2, h3⟩ := veqs_append (by simp; omega) (by simp; omega) hv
          have p1 := run_part_val (P := P) (w := w) hd (off := n) (cs := xs) hsz (by omega)
          have p2 := run_part_val (P := P) (w := w) hd (off := n) (cs := ys) hsz (by omega)
          have e1 := ih _ _ hk _ _ r1 h1
          have rec_ := run_eqFields fl hfl ih fs (n + k.length) ls hls xs ys r2 (by omega) (by omega) h2
          subst hoff
          simp only [Op.eqFields, ne_eq, hname, not_false_eq_true, if_true, Sem.run_bind, p1, p2, e1, Result.andThen_ok, Sem.run_ite]
          cases r1
          · simp [h3]
          · simp [h3, rec_]
        · cases h
      · cases h
    · cases h

theorem run_eqFlat : ∀ (d : Nat) (t : TypeId) (ks : List SK), flat P d t = some ks → ∀ (m : Nat) (xs ys : List Value) (b : Bool),
    veqs ks (xs.map .v) (ys.map .v) = some b → (Op.equalIn (d + m) t (valOf P t xs) (valOf P t ys)).run P w = .ok b w
  | 0, _, _, h, _, _, _, _, _ => by cases h
  | d + 1, t, ks, h, m, xs, ys, b, hv => by
    have hm : d + 1 + m = (d + m) + 1 := by omega
    rw [hm]
    rcases flatOne h with ⟨fs, hu⟩ | ⟨ha, k, rfl, hk⟩
    · have hval : ∀ zs, valOf P t zs = .agg zs.toArray := fun zs => by unfold valOf; rw [hu]
      rw [hval, hval]
      simp only [flat, hu] at h
      split at h
      · cases h
      · rename_i hst
        have hf : P.underlying t = some (.struct (P.fieldsOf t)) := by rw [hu]; simp [Program.fieldsOf, hu]
        have hfs : P.fieldsOf t = fs := by simp [Program.fieldsOf, hu]
        have hlen := veqs_length hv
        simp only [List.length_map] at hlen
        rw [run_equalIn_struct w (d + m) t _ _ hf (by simpa using hst), hfs]
        exact run_eqFields (flat P d) (fun t ks h => ⟨d, h⟩) (fun t ks h xs ys b hv => run_eqFlat d t ks h m xs ys b hv) fs.toList 0 ks h _ _ b (by simp [hlen.1]) (by simp [hlen.2]) (by simpa using hv)
    · have hl := veqs_length hv
      simp only [List.length_map, List.length_cons, List.length_nil, Nat.zero_add] at hl
      match xs, ys, hl with
      | [x], [y], _ =>
        simp only [List.map_cons, List.map_nil, veqs] at hv
        have hval : ∀ z, valOf P t [z] = z := fun z => by
          unfold valOf
          rcases hk with ⟨_, hu⟩ | ⟨_, j, hu⟩ | ⟨_, hu⟩ <;> rw [hu] <;> rfl
        rw [hval, hval]
        have hq : veq k (.v x) (.v y) = some b := by
          split at hv
          · rename_i p q e1 e2
            cases e2; cases hv
            simpa using e1
          · cases hv
        rcases hk with ⟨rfl, hu⟩ | ⟨rfl, j, hu⟩ | ⟨rfl, hu⟩
        · cases x <;> cases y <;> simp only [veq] at hq <;> first | (cases hq; done) | (cases hq; exact run_equalIn_bool' w _ t _ _ hu)
        · cases x <;> cases y <;> simp only [veq] at hq <;> first | (cases hq; done) | skip
          split at hq
          · rename_i hkk; subst hkk; cases hq; exact run_equalIn_int w _ t _ j _ _ hu
          · cases hq
        · cases x <;> cases y <;> simp only [veq] at hq <;> first | (cases hq; done) | (cases hq; rw [← ByteArray.toList_eq, ← ByteArray.toList_eq]; exact run_equalIn_string w _ t _ _ hu)

theorem veqs_map_v : ∀ {ks : List SK} {a b : List D} {r : Bool}, veqs ks a b = some r → ∃ (xs ys : List Value), a = xs.map D.v ∧ b = ys.map D.v
  | [], [], [], _, _ => ⟨[], [], rfl, rfl⟩
  | k :: ks, x :: a, y :: b, r, h => by
    simp only [veqs] at h
    split at h
    · rename_i e1 e2
      obtain ⟨u, v, rfl, rfl⟩ := veq_v e1
      obtain ⟨xs, ys, rfl, rfl⟩ := veqs_map_v e2
      exact ⟨u :: xs, v :: ys, rfl, rfl⟩
    · cases h
  | [], _ :: _, _, _, h => by simp [veqs] at h
  | [], [], _ :: _, _, h => by simp [veqs] at h
  | _ :: _, [], _, _, h => by simp [veqs] at h
  | _ :: _, _ :: _, [], _, h => by simp [veqs] at h

theorem RepL.v_inv {xs vs : List Value} (r : RepL g (xs.map .v) vs) : vs = xs := by
  induction xs generalizing vs with
  | nil => exact r.nil_inv
  | cons x r' ih =>
    obtain ⟨v, ws, rfl, h1, h2⟩ := r.cons_inv
    cases h1
    rw [ih h2]

theorem rep_agg_v {xs : List Value} {v : Value} (r : Rep g (.agg (xs.map .v)) v) : v = .agg xs.toArray := by
  cases r with
  | agg vs hl hx hs => rw [RepL.v_inv (g := g) ⟨hl, hx⟩]

def EqK.isIf : EqK → Bool
  | .ref .iface => true
  | _ => false

/-- '==' and '!=' on what are no numbers, no strings. -/
theorem run_eqD {k : EqK} {op : BinOp} {t : TypeId} {xo yo : Operand} {dx dy : D} {x y : Value} {b : Bool} (hk : eqk P t = some k) (hop : op = .eql ∨ op = .neq)
    (hif : k.isIf = true → (∃ v, xo = .const v) ∨ ∃ v, yo = .const v) (rx : Rep g dx x) (ry : Rep g dy y) (h : eqD k dx dy = some b) :
    (do eqGuard op t xo yo x y; binOp op t x y : Sem Value).run P w = .ok (.bool (if op = .eql then b else !b)) w := by
  unfold eqk at hk
  cases k with
  | scalar => simp [eqD] at h
  | bools =>
    have hu : P.underlying t = some .bool := by
      split at hk <;> first | assumption | (cases hk; done) | skip
      split at hk <;> first | (cases hk; done) | (simp only [Option.map_eq_some_iff] at hk; obtain ⟨_, _, hh⟩ := hk; cases hh)
    simp only [eqD] at h
    obtain ⟨u, v, rfl, rfl⟩ := veq_v h
    cases rx; cases ry
    cases x <;> cases y <;> simp only [veq] at h <;> first | (cases h; done) | skip
    cases h
    simp only [eqGuard_at_bool]
    rcases hop with rfl | rfl
    · exact eql_bool _ _ hu
    · exact neq_bool _ _ hu
  | cells ks =>
    obtain ⟨fs, hu, hg, hf⟩ : ∃ fs, P.underlying t = some (.struct fs) ∧ P.eqGuardType P.depth t = false ∧ flat P 20 t = some ks := by
      split at hk <;> first | (cases hk; done) | skip
      rename_i fs hu
      split at hk
      · cases hk
      · rename_i hg
        simp only [Option.map_eq_some_iff] at hk
        obtain ⟨l, h1, h2⟩ := hk
        cases h2
        exact ⟨fs, hu, by simpa using hg, h1⟩
    simp only [eqD] at h
    split at h
    · rename_i a c
      obtain ⟨xs, ys, rfl, rfl⟩ := veqs_map_v h
      have hx := rep_agg_v rx
      have hy := rep_agg_v ry
      subst hx; subst hy
      have key := run_eqFlat (P := P) (w := w) 20 t ks hf 9980 xs ys b h
      have hval : ∀ zs, valOf P t zs = .agg zs.toArray := fun zs => by unfold valOf; rw [hu]
      rw [hval, hval] at key
      simp only [Sem.run_bind, run_eqGuard_agg (P := P) w op t xo yo _ _ hg, Result.andThen_ok]
      rcases hop with rfl | rfl
      · rw [run_eql_struct, key]; rfl
      · rw [run_neq_struct, key]; rfl
    · cases h
  | ref r =>
    have hu : ∃ d, P.underlying t = some d ∧ refTy r d := by
      split at hk <;> first | (cases hk; done) | (cases hk; refine ⟨_, ‹P.underlying t = some _›, ?_⟩; exact True.intro) | skip
      split at hk <;> first | (cases hk; done) | (simp only [Option.map_eq_some_iff] at hk; obtain ⟨_, _, hh⟩ := hk; cases hh)
    obtain ⟨d, hu, hd⟩ := hu
    simp only [eqD] at h
    have main : ∀ p q, nilK r dx = some p → nilK r dy = some q → (p = true ∨ q = true) → b = (p && q) → (do eqGuard op t xo yo x y; binOp op t x y : Sem Value).run P w = .ok (.bool (if op = .eql then b else !b)) w := fun p q hp hq hpq hb => by
      have n1 := nilK_rep hp rx
      have n2 := nilK_rep hq ry
      rw [eqGuard_ref n1 n2 (fun e => hif (by subst e; rfl))]
      show (binOp op t x y).run P w = _
      have key := run_eqRef (P := P) (w := w) hu hd n1 n2 hpq 9999
      rcases hop with rfl | rfl
      · rw [(binOp_ref n1 n2).1]
        simp only [Op.equal, Op.maxDepth, Sem.run_bind, key, Result.andThen_ok, Sem.run_pure, if_true, hb]
      · rw [(binOp_ref n1 n2).2]
        simp only [Op.equal, Op.maxDepth, Sem.run_bind, key, Result.andThen_ok, Sem.run_pure, hb]
        rfl
    split at h
    · rename_i q hp hq; cases h; exact main true _ hp hq (.inl rfl) (by simp)
    · rename_i hp hq; cases h; exact main false true hp hq (.inr rfl) rfl
    · cases h
end
end Go.Fk

/- Soundness of the operations, fourth part: addresses, slices, elements, conversions, look-ups. -/
namespace Go.Fk
open Go.RowKit (Below)
section
variable {P : Program} {g : G} {B : Nat} {w0 : Base} {s : St} {w : World}

theorem Rep.cells_len {d : D} {v : Value} (r : Rep g d v) (h : d.szOk = true) : d.cells.length = v.cells.size := by
  cases r with
  | un => cases h
  | v _ => cases v <;> first | rfl | cases h
  | agg vs hl hx hs => simp [D.cells, Value.cells, hl]
  | sym v h h1 => cases v <;> first | rfl | cases h1
  | _ => rfl

theorem int?_rep {d : D} {v : Value} {i : Int} (h : d.int? = some i) (r : Rep g d v) : ∃ k, v = .int k i := by
  unfold D.int? at h
  split at h
  · cases h; cases r; exact ⟨_, rfl⟩
  · cases h

theorem does_faddr (hi : Inv g B w0 s w) {t : TypeId} {fs : Array Field} {n : Nat} {f : Field} {i : Nat} {da d : D} {va : Value} (hu : P.underlying t = some (.struct fs)) (hf : fs[i]? = some f)
    (hn : tSize P f.type = some n) (h0 : n ≠ 0) (r : Rep g da va)
    (h : faddrQ f.offset da = some d) : Does P (Instr.fieldAt t va i) g B w0 s s w d := by
  have key : ∀ b o, (Instr.fieldAt t (.pointer (some ⟨b, o, none⟩)) i).run P w = .ok (.pointer (some ⟨b, o + f.offset, none⟩)) w := fun b o => by
    simp only [Instr.fieldAt, Sem.run_bind, run_under hu, Result.andThen_ok, hf, Instr.sureAddr, Sem.run_pure, fieldPlace, run_size hn, Sem.run_ite, h0, if_false, addr_add]
  cases r with
  | ptr b hb => cases h; exact Does.of hi (key b _) (.ptr b hb)
  | @lptr xs j o b o' sz vs hl hx hrow =>
    cases h
    refine Does.of hi (key b _) ?_
    rw [Nat.add_assoc]
    exact .lptr b o' sz vs hl hx hrow
  | _ => cases h

theorem does_elemAt (hi : Inv g B w0 s w) {xs : List D} {i sz : Nat} {d : D} (h : elemAt xs i sz = some d) {t el : TypeId} (hu : P.underlying t = some (.slice el)) (hn : tSize P el = some sz)
    {b o cap sz' : Nat} {vs : List Value} (hl : vs.length = xs.length) (hx : ∀ (i : Nat) (d : D) (v : Value), xs[i]? = some d → vs[i]? = some v → Rep g d v) (hr : Row g b o sz' vs) {k : IntKind} {j : Int} (hj : 0 ≤ j) (hij : j.toNat = i) :
    Does P (Instr.indexAt t (.slice (some ⟨b, o, none⟩) xs.length cap) (.int k j)) g B w0 s s w d := by
  unfold elemAt at h
  split at h
  · rename_i dx hdx
    split at h
    · rename_i hc
      simp only [Bool.and_eq_true, beq_iff_eq] at hc
      cases h
      obtain ⟨vx, hvx, hrx⟩ := RepL.get (g := g) ⟨hl, hx⟩ hdx
      have e1 := hrx.cells_len hc.1
      have e2 := (hr.2 i vx hvx).1
      have hsz : sz' = sz := by omega
      subst hsz
      have hlt : i < xs.length := (List.getElem?_eq_some_iff.1 hdx).1
      refine Does.of hi (v := .pointer (some ⟨b, o + i * sz' + 0, none⟩)) ?_ (.lptr b o sz' vs hl hx hr)
      have hb : j < (xs.length : Int) := by omega
      simp only [Instr.indexAt, Sem.run_bind, asIntOf, Sem.run_pure, Result.andThen_ok, run_under hu, hj, hb, and_self, if_true, run_size hn, Sem.run_ite, addr_add, hij, Nat.add_zero]
    · cases h
  · cases h

theorem asI_spec {di d : D} {vi : Value} {k : Nat → Option D} (ri : Rep g di vi) (h : asI di k = some d) : ∃ kk j, vi = .int kk j ∧ 0 ≤ j ∧ k j.toNat = some d := by
  unfold asI at h
  split at h
  · rename_i j hj
    obtain ⟨kk, rfl⟩ := int?_rep hj ri
    split at h
    · exact ⟨kk, j, rfl, by assumption, h⟩
    · cases h
  · cases h

theorem does_iaddr (hi : Inv g B w0 s w) {t : TypeId} {sz : Nat} {arr : Option Nat} {dx di d : D} {vx vi : Value} (rx : Rep g dx vx) (ri : Rep g di vi)
    (ht : (∃ el, P.underlying t = some (.slice el) ∧ tSize P el = some sz ∧ arr = none) ∨ ∃ n el, P.underlying t = some (.array n el) ∧ tSize P el = some sz ∧ arr = some n)
    (h : (asI di fun i => iaddrQ arr sz i dx) = some d) : Does P (Instr.indexAt t vx vi) g B w0 s s w d := by
  obtain ⟨k, j, rfl, h0, h⟩ := asI_spec ri h
  unfold iaddrQ at h
  rcases ht with ⟨el, hu, hn, rfl⟩ | ⟨n, el, hu, hn, rfl⟩
  · cases rx with
    | list b o cap sz' vs hl hcap hx hc hr htk => exact does_elemAt hi h hu hn hl hx hr h0 rfl
    | rlist b o cap sz' vs hl hcap hx hr => exact does_elemAt hi h hu hn hl hx hr h0 rfl
    | @arr id off len sz' fl b cap hb hcap hsz hfl =>
      simp only at h
      split at h
      · rename_i hc
        cases h
        obtain ⟨hlt, rfl⟩ := hc
        refine Does.of hi (v := .pointer (some ⟨b, off + j.toNat * sz', none⟩)) ?_ (.ptr b hb)
        have hb : j < (len : Int) := by omega
        simp only [Instr.indexAt, Sem.run_bind, asIntOf, Sem.run_pure, Result.andThen_ok, run_under hu, h0, hb, and_self, if_true, run_size hn, Sem.run_ite, addr_add]
      · cases h
    | _ => cases h
  · cases rx with
    | @ptr id off b hb =>
      simp only at h
      split at h
      · rename_i hc
        cases h
        refine Does.of hi (v := .pointer (some ⟨b, off + j.toNat * sz, none⟩)) ?_ (.ptr b hb)
        have hb : j < (n : Int) := by omega
        simp only [Instr.indexAt, Sem.run_bind, asIntOf, Sem.run_pure, Result.andThen_ok, run_under hu, Instr.sureAddr, h0, hb, and_self, if_true, run_size hn, Sem.run_ite, addr_add]
      · cases h
    | @lptr xs k' off b o sz' vs hl hx hr =>
      simp only at h
      split at h
      · rename_i hc
        cases h
        refine Does.of hi (v := .pointer (some ⟨b, o + k' * sz' + (off + j.toNat * sz), none⟩)) ?_ (.lptr b o sz' vs hl hx hr)
        have hb : j < (n : Int) := by omega
        simp only [Instr.indexAt, Sem.run_bind, asIntOf, Sem.run_pure, Result.andThen_ok, run_under hu, Instr.sureAddr, h0, hb, and_self, if_true, run_size hn, Sem.run_ite, addr_add, Nat.add_assoc]
      · cases h
    | _ => cases h

theorem loadD_part {t : TypeId} {ag : Bool} {n off : Nat} {ds : List D} {vs : Array Value} {d : D} (ha : uAgg P t = some ag) (hn : tSize P t = some n) (r : RepL g ds vs.toList) (hs : ds.all (·.single) = true)
    (h : loadD ag n ds off = some d) : ∃ v, (part t vs off).run P w = .ok v w ∧ Rep g d v := by
  unfold loadD at h
  cases ag with
  | true =>
    simp only [if_true, Option.map_eq_some_iff] at h
    obtain ⟨ds', h1, rfl⟩ := h
    unfold cut at h1
    split at h1
    · cases h1
      have r' := (r.drop off).take n
      refine ⟨.agg (vs.extract off (off + n)), by simp [part, run_isAgg ha, run_size hn], ?_⟩
      have e : (vs.extract off (off + n)) = ((vs.toList.drop off).take n).toArray := by
        apply Array.ext'
        simp [Array.toList_extract, List.extract_eq_take_drop]
      rw [e]
      refine .agg _ r'.1 r'.2 ?_
      simp only [List.all_eq_true] at *
      exact fun x hx => hs x (List.mem_of_mem_drop (List.mem_of_mem_take hx))
    · cases h1
  | false =>
    simp only [Bool.false_eq_true, if_false] at h
    obtain ⟨v, hv, hr'⟩ := r.get h
    have hv' : vs[off]? = some v := by simpa using hv
    exact ⟨v, by simp [part, run_isAgg ha, hv'], hr'⟩

theorem does_field (hi : Inv g B w0 s w) {t : TypeId} {fs : Array Field} {f : Field} {i n : Nat} {ag : Bool} {dx d : D} {vx : Value} (hu : P.underlying t = some (.struct fs)) (hf : fs[i]? = some f)
    (ha : uAgg P f.type = some ag) (hn : tSize P f.type = some n) (r : Rep g dx vx) (h : fieldQ ag f.offset n dx = some d) : Does P (Instr.field t vx i) g B w0 s s w d := by
  cases r with
  | agg vs hl hx hs =>
    obtain ⟨v, h1, h2⟩ := loadD_part (P := P) (w := w) (vs := vs.toArray) ha hn ⟨by simpa using hl, by simpa using hx⟩ hs h
    exact Does.of hi (by simp [Instr.field, run_under hu, hf, asAgg, h1]) h2
  | _ => cases h

theorem does_index (hi : Inv g B w0 s w) {t : TypeId} {arr : Option (Nat × Bool × Nat)} {dx di d : D} {vx vi : Value} (rx : Rep g dx vx) (ri : Rep g di vi)
    (ht : (P.underlying t = some .string ∧ arr = none) ∨ ∃ n el ag sz, P.underlying t = some (.array n el) ∧ uAgg P el = some ag ∧ tSize P el = some sz ∧ arr = some (n, ag, sz))
    (h : (asI di fun i => indexQ arr i dx) = some d) : Does P (Instr.index t vx vi) g B w0 s s w d := by
  obtain ⟨k, j, rfl, h0, h⟩ := asI_spec ri h
  unfold indexQ at h
  rcases ht with ⟨hu, rfl⟩ | ⟨n, el, ag, sz, hu, ha, hn, rfl⟩
  · cases rx with
    | v _ =>
      cases vx with
      | string b =>
        simp only [Option.map_eq_some_iff] at h
        obtain ⟨c, hc, rfl⟩ := h
        have hc' : b[j.toNat]? = some c := by
          have : b.data[j.toNat]? = some c := by simpa using hc
          obtain ⟨hlt, he⟩ := Array.getElem?_eq_some_iff.1 this
          rw [getElem?_eq_some_iff]
          exact ⟨hlt, he⟩
        refine Does.of hi (v := .int .u8 c.toNat) ?_ (.v _)
        simp [Instr.index, asIntOf, run_under hu, h0, hc']
      | _ => cases h
    | _ => cases h
  · cases rx with
    | agg vs hl hx hs =>
      simp only at h
      split at h
      · rename_i hlt
        obtain ⟨v, h1, h2⟩ := loadD_part (P := P) (w := w) (vs := vs.toArray) ha hn ⟨by simpa using hl, by simpa using hx⟩ hs h
        have hb : j < (n : Int) := by omega
        refine Does.of hi (v := v) ?_ h2
        simp [Instr.index, asIntOf, run_under hu, h0, hb, run_size hn, h1]
      · cases h
    | _ => cases h

/-- How bounds are found. -/
theorem run_bounds (isSlice : Bool) (len cap : Nat) (lo hi mx : Option (IntKind × Int)) (l h m : Nat) (hl : ((lo.map Prod.snd).getD 0 : Int) = (l : Int)) (hh : ((hi.map Prod.snd).getD (len : Int) : Int) = (h : Int)) (hm : ((mx.map Prod.snd).getD (cap : Int) : Int) = (m : Int))
    (h1 : l ≤ h) (h2 : h ≤ m) (h3 : m ≤ cap) (hnm : mx.isSome → hi.isSome) :
    (Instr.sliceBounds isSlice len cap (lo.map fun p => .int p.1 p.2) (hi.map fun p => .int p.1 p.2) (mx.map fun p => .int p.1 p.2)).run P w = .ok (l, h, m) w := by
  cases mx with
  | none =>
    simp only [Option.map_none, Option.getD_none] at hm
    have hm' : m = cap := by omega
    subst hm'
    cases hi with
    | none =>
      simp only [Option.map_none, Option.getD_none] at hh
      have : h = len := by omega
      subst this
      cases lo with
      | none =>
        simp only [Option.map_none, Option.getD_none] at hl
        have : l = 0 := by omega
        subst this
        simp [Instr.sliceBounds]
      | some p =>
        simp only [Option.map_some, Option.getD_some] at hl
        have := run_sliceBound (P := P) w p.1 p.2 h .sliceB (by omega) (by omega)
        simp only [Option.map_some, Option.map_none, Instr.sliceBounds, Sem.run_bind, Sem.run_pure, Result.andThen_ok, Option.isSome_none, Bool.false_eq_true, if_false, this]
        simp [hl]
    | some q =>
      simp only [Option.map_some, Option.getD_some] at hh
      have hq := fun c => run_sliceBound (P := P) w q.1 q.2 m c (by omega) (by omega)
      have eh : q.2.toNat = h := by omega
      cases lo with
      | none =>
        simp only [Option.map_none, Option.getD_none] at hl
        have : l = 0 := by omega
        subst this
        simp [Instr.sliceBounds, hq, eh]
      | some p =>
        simp only [Option.map_some, Option.getD_some] at hl
        have := run_sliceBound (P := P) w p.1 p.2 h .sliceB (by omega) (by omega)
        simp only [Option.map_some, Option.map_none, Instr.sliceBounds, Sem.run_bind, hq, eh, Sem.run_pure, Result.andThen_ok, Option.isSome_none, Bool.false_eq_true, if_false, this]
        simp [hl]
  | some r =>
    simp only [Option.map_some, Option.getD_some] at hm
    have hr := fun c => run_sliceBound (P := P) w r.1 r.2 cap c (by omega) (by omega)
    have em : r.2.toNat = m := by omega
    cases hi with
    | none => simp at hnm
    | some q =>
      simp only [Option.map_some, Option.getD_some] at hh
      have hq := run_sliceBound (P := P) w q.1 q.2 m .slice3B (by omega) (by omega)
      have eh : q.2.toNat = h := by omega
      cases lo with
      | none =>
        simp only [Option.map_none, Option.getD_none] at hl
        have : l = 0 := by omega
        subst this
        simp [Instr.sliceBounds, hr, em, hq, eh]
      | some p =>
        simp only [Option.map_some, Option.getD_some] at hl
        have := run_sliceBound (P := P) w p.1 p.2 h .slice3C (by omega) (by omega)
        simp only [Option.map_some, Instr.sliceBounds, Sem.run_bind, hr, em, hq, eh, Sem.run_pure, Result.andThen_ok, Option.isSome_some, if_true, this]
        simp [hl]

end
end Go.Fk

/- Soundness of the operations, fifth part: slicing, elements of slices, conversions. -/
namespace Go.Fk
open Go.RowKit (Below)
section
variable {P : Program} {g : G} {B : Nat} {w0 : Base} {s : St} {w : World}

theorem asOI_spec {e : Env} {a : Act} (he : EnvRep g e a.tmps) {x : Option Operand} {o : Option Opd} (hc : cOpt x = some o) {l : Option Int} (h : asOI (o.map (·.ev e)) = some l) :
    ∃ p : Option (IntKind × Int), x.map a.eval = p.map (fun p => .int p.1 p.2) ∧ p.map Prod.snd = l := by
  cases x with
  | none => cases hc; cases h; exact ⟨none, rfl, rfl⟩
  | some x =>
    simp only [cOpt, Option.map_eq_some_iff] at hc
    obtain ⟨y, hy, rfl⟩ := hc
    simp only [Option.map_some, asOI, Option.map_eq_some_iff] at h
    obtain ⟨i, hi, rfl⟩ := h
    obtain ⟨k, hk⟩ := int?_rep hi (cOpd_rep he hy)
    exact ⟨some (k, i), by simp [hk], rfl⟩

theorem tk_cut {tk : Tk} {b o len cap l h m : Nat} (ht : TkOk g tk b o len cap) (hlh : l ≤ h) (mxs : Bool) (hmc : mxs = false → m = cap) (b' o' : Nat) (hb : b' = b) (ho : l = 0 → o' = o) :
    TkOk g (tkSub mxs tk l h m len) b' o' (h - l) (m - l) := by
  subst hb
  unfold tkSub
  cases mxs with
  | true =>
    simp only [if_true]
    split
    · show m - l = h - l; omega
    · trivial
  | false =>
    have := hmc rfl
    subst this
    simp only [Bool.false_eq_true, if_false]
    split
    · rename_i h1
      have h1 : h = len := by omega
      subst h1
      split
      · rename_i h2
        have h2 : l = 0 := by omega
        subst h2
        rw [ho rfl]
        simpa using ht
      · cases tk with
        | full => have : m = h := ht; show m - l = h - l; omega
        | _ => trivial
    · trivial
theorem tkSub_notTok {tk : Tk} (hk : notTok tk = true) (mxs : Bool) (l h m len : Int) : notTok (tkSub mxs tk l h m len) = true := by
  unfold tkSub
  (repeat' split) <;> first | rfl | exact hk

theorem Row.sub {b o sz : Nat} {vs : List Value} (r : Row g b o sz vs) (l h : Nat) : Row g b (o + l * sz) sz ((vs.take h).drop l) :=
  ⟨r.1, fun i v e => by
    rw [List.getElem?_drop, List.getElem?_take] at e
    split at e
    · obtain ⟨h1, h2⟩ := r.2 _ _ e
      refine ⟨h1, fun j c k => ?_⟩
      have := h2 j c k
      rw [Nat.add_mul] at this
      rw [show o + l * sz + i * sz + j = o + (l * sz + i * sz) + j from by omega]
      exact this
    · cases e⟩

theorem does_slice (hi : Inv g B w0 s w) {e : Env} {a : Act} (he : EnvRep g e a.tmps) {t : TypeId} {kind n sz : Nat} {lo hh mx : Option Operand} {lo' hh' mx' : Option Opd} {dx d : D} {vx : Value}
    (hlo : cOpt lo = some lo') (hhi : cOpt hh = some hh') (hmx : cOpt mx = some mx') (rx : Rep g dx vx) (hmh : mx'.isSome → hh'.isSome)
    (ht : (P.underlying t = some .string ∧ kind = 0) ∨ (∃ el, P.underlying t = some (.slice el) ∧ tSize P el = some sz ∧ kind = 2) ∨ ∃ el, P.underlying t = some (.array n el) ∧ tSize P el = some sz ∧ kind = 1)
    (h : sliceQ kind n sz dx (lo'.map (·.ev e)) (hh'.map (·.ev e)) (mx'.map (·.ev e)) = some d) :
    Does P (Instr.sliceAt t vx (lo.map a.eval) (hh.map a.eval) (mx.map a.eval)) g B w0 s s w d := by
  unfold sliceQ at h
  split at h
  · rename_i l hg m e1 e2 e3
    obtain ⟨pl, q1, rfl⟩ := asOI_spec he hlo e1
    obtain ⟨ph, q2, rfl⟩ := asOI_spec he hhi e2
    obtain ⟨pm, q3, rfl⟩ := asOI_spec he hmx e3
    rw [q1, q2, q3]
    have hpm : pm.isSome → ph.isSome := by
      intro k
      have c1 : mx'.isSome := by cases mx' <;> cases pm <;> simp [asOI] at e3 k ⊢
      have c2 := hmh c1
      cases hh' <;> cases ph <;> simp [asOI] at e2 c2 ⊢
    clear e1 e2 e3 q1 q2 q3
    have strT : kind = 0 → P.underlying t = some .string := fun k => by rcases ht with ⟨hu, _⟩ | ⟨el, hu, _, hk⟩ | ⟨el, hu, _, hk⟩ <;> first | exact hu | omega
    have slT : kind = 2 → ∃ el, P.underlying t = some (.slice el) ∧ tSize P el = some sz := fun k => by rcases ht with ⟨hu, hk⟩ | ⟨el, hu, h1, hk⟩ | ⟨el, hu, _, hk⟩ <;> first | exact ⟨el, hu, h1⟩ | omega
    have arT : kind = 1 → ∃ el, P.underlying t = some (.array n el) ∧ tSize P el = some sz := fun k => by rcases ht with ⟨hu, hk⟩ | ⟨el, hu, h1, hk⟩ | ⟨el, hu, h1, hk⟩ <;> first | exact ⟨el, hu, h1⟩ | omega
    -- a slice's run
    have runS : ∀ (el : TypeId) (aa : Option Addr) (len cap l h m : Nat), P.underlying t = some (.slice el) → tSize P el = some sz → ((pl.map Prod.snd).getD 0 : Int) = l → ((ph.map Prod.snd).getD (len : Int) : Int) = h →
        ((pm.map Prod.snd).getD (cap : Int) : Int) = m → l ≤ h → h ≤ m → m ≤ cap →
        (Instr.sliceAt t (.slice aa len cap) (pl.map fun p => .int p.1 p.2) (ph.map fun p => .int p.1 p.2) (pm.map fun p => .int p.1 p.2)).run P w =
          .ok (.slice (if m = l then aa else aa.map (·.add (l * sz))) (h - l) (m - l)) w := fun el aa len cap l h m hu hn h1 h2 h3 h4 h5 h6 => by
      have hb := run_bounds (P := P) (w := w) true len cap pl ph pm l h m h1 h2 h3 h4 h5 h6 hpm
      simp only [Instr.sliceAt, Sem.run_bind, run_under hu, Result.andThen_ok, Instr.slice, hb, run_size hn, Sem.run_pure]
    unfold sub at h
    cases rx with
    | v _ =>
      cases vx with
      | string b =>
        simp only at h
        split at h
        · cases h
        · rename_i hmn
          split at h
          · rename_i hc
            obtain ⟨c1, c2, c3⟩ := hc
            cases h
            have hk : kind = 0 := by
              rcases Nat.decEq kind 0 with k | k
              · exact absurd (.inr k) hmn
              · exact k
            cases pm with
            | some p => exact absurd (.inl rfl) hmn
            | none =>
              have hu := strT hk
              have hb := run_bounds (P := P) (w := w) false b.size b.size pl ph none ((pl.map Prod.snd).getD 0).toNat ((ph.map Prod.snd).getD b.size).toNat b.size (by omega) (by omega) (by simp) (by omega) (by omega) (Nat.le_refl _) (by simp)
              simp only [Option.map_none] at hb
              refine Does.of hi (v := .string (b.extract ((pl.map Prod.snd).getD 0).toNat ((ph.map Prod.snd).getD b.size).toNat)) ?_ (.v _)
              simp only [Instr.sliceAt, Sem.run_bind, run_under hu, Result.andThen_ok, Instr.slice, Option.map_none, Option.isSome_none, Bool.false_eq_true, if_false, Sem.run_pure, hb]
          · cases h
      | slice aa ll cc =>
        cases aa with
        | some aa => cases h
        | none => cases ll with
          | succ ll => cases h
          | zero => cases cc with
            | succ cc => cases h
            | zero =>
              simp only at h
              split at h
              · rename_i hc
                cases h
                obtain ⟨el, hu, hn⟩ := slT hc.1
                refine Does.of hi (runS el none 0 0 0 0 0 hu hn (by simpa using hc.2.1) (by simpa using hc.2.2.1) (by simpa using hc.2.2.2) (Nat.le_refl _) (Nat.le_refl _) (Nat.le_refl _)) (.v _)
              · cases h
      | _ => cases h
    | @list xs tk b o cap sz' vs hl hcap hx hc hr htk =>
      simp only at h
      split at h
      · rename_i hcond
        obtain ⟨hk2, c1, c2, c3, c4, c5⟩ := hcond
        cases h
        obtain ⟨el, hu, hn⟩ := slT hk2
        generalize hL : ((pl.map Prod.snd).getD 0 : Int) = L at *
        generalize hH : ((ph.map Prod.snd).getD (xs.length : Int) : Int) = H at *
        have hM : ∃ M : Nat, ((pm.map Prod.snd).getD (cap : Int) : Int) = M ∧ H ≤ M ∧ M ≤ cap ∧ (pm.isSome = false → M = cap) ∧ (pm.isSome = true → ((pm.map Prod.snd).getD H : Int) = M) := by
          cases pm with
          | none => exact ⟨cap, rfl, by omega, Nat.le_refl _, fun _ => rfl, fun k => by cases k⟩
          | some p =>
            simp only [Option.map_some, Option.getD_some] at c3 c4
            refine ⟨p.2.toNat, by simp; omega, by omega, by omega, (fun k => by cases k), fun _ => by simp; omega⟩
        obtain ⟨M, m1, m2, m3, m4, m5⟩ := hM
        have hrun := runS el (some ⟨b, o, none⟩) xs.length cap L.toNat H.toNat M hu hn (by first | (rw [hL]; omega) | omega) (by first | (rw [hH]; omega) | omega) m1 (by omega) (by omega) m3
        have hlen : ((xs.take H.toNat).drop L.toNat).length = H.toNat - L.toNat := by simp; omega
        have hx' : ∀ (i : Nat) (d : D) (v : Value), ((xs.take H.toNat).drop L.toNat)[i]? = some d → ((vs.take H.toNat).drop L.toNat)[i]? = some v → Rep g d v :=
          (RepL.drop (RepL.take (g := g) ⟨hl, hx⟩ H.toNat) L.toNat).2
        have hc' : D.clL 0 ((xs.take H.toNat).drop L.toNat) = true := clL_of fun d hd => by
          obtain ⟨i, hi⟩ := List.mem_iff_getElem?.1 (List.mem_of_mem_take (List.mem_of_mem_drop hd))
          exact clL_get hc hi
        -- the address
        have haddr : ∃ o', (if M = L.toNat then some (⟨b, o, none⟩ : Addr) else (some (⟨b, o, none⟩ : Addr)).map (·.add (L.toNat * sz))) = some ⟨b, o', none⟩ ∧ (L.toNat = 0 → o' = o) ∧
            ∃ sz'', Row g b o' sz'' ((vs.take H.toNat).drop L.toNat) := by
          have rowE : ∀ o', H.toNat ≤ L.toNat → ∃ sz'', Row g b o' sz'' ((vs.take H.toNat).drop L.toNat) := fun o' hle => by
            have : (vs.take H.toNat).drop L.toNat = [] := List.drop_eq_nil_of_le (by simp; omega)
            rw [this]
            exact ⟨sz', hr.1, fun i v e => by simp at e⟩
          split
          · rename_i heq
            exact ⟨o, rfl, fun _ => rfl, rowE o (by omega)⟩
          · refine ⟨o + L.toNat * sz, by simp [addr_add], fun h0 => by simp [h0], ?_⟩
            rcases c5 with c5 | c5 | c5
            · have : L.toNat = 0 := by omega
              rw [this, Nat.zero_mul]
              exact ⟨sz', by have := hr.sub 0 H.toNat; simpa using this⟩
            · exact rowE _ (by omega)
            · unfold szAt at c5
              split at c5
              · rename_i dx hdx
                simp only [Bool.and_eq_true, beq_iff_eq] at c5
                obtain ⟨vx, hvx, hrx⟩ := RepL.get (g := g) ⟨hl, hx⟩ hdx
                have e1 := hrx.cells_len c5.1
                have e2 := (hr.2 _ vx hvx).1
                have hsz : sz' = sz := by omega
                subst hsz
                exact ⟨sz', hr.sub L.toNat H.toNat⟩
              · cases c5
        obtain ⟨o', ha, ho', sz'', hrow⟩ := haddr
        rw [ha] at hrun
        refine Does.of hi hrun ?_
        have tko := tk_cut (l := L.toNat) (h := H.toNat) (m := M) htk (by omega) pm.isSome (fun k => m4 k) b o' rfl ho'
        rw [← hlen]
        have hlen2 : ((vs.take H.toNat).drop L.toNat).length = ((xs.take H.toNat).drop L.toNat).length := by simp [hl]
        refine .list b o' (M - L.toNat) sz'' ((vs.take H.toNat).drop L.toNat) hlen2 (by omega) hx' hc' hrow ?_
        rw [hlen]
        have eH : ((H.toNat : Nat) : Int) = H := by omega
        have eL : ((L.toNat : Nat) : Int) = L := by omega
        rw [eH, eL] at tko
        have hps : (pm.map Prod.snd).isSome = pm.isSome := by cases pm <;> rfl
        rw [hps]
        cases hpms : pm.isSome with
        | false =>
          rw [hpms] at tko
          have : ∀ q, tkSub false tk L H q xs.length = tkSub false tk L H M xs.length := fun q => by simp [tkSub]
          rw [this]
          exact tko
        | true =>
          rw [hpms] at tko
          rw [m5 hpms]
          exact tko
      · cases h
    | @arr id off len sz' fl b cap hb hcap hsz hfl =>
      simp only at h
      split at h
      · cases h
      · rename_i hmn
        split at h
        · rename_i hc
          obtain ⟨hk2, hszz, c1, c2, c3⟩ := hc
          subst hszz
          cases pm with
          | some p => simp at hmn
          | none =>
            obtain ⟨el, hu, hn⟩ := slT hk2
            generalize hL : ((pl.map Prod.snd).getD 0 : Int) = L at *
            generalize hH : ((ph.map Prod.snd).getD (len : Int) : Int) = H at *
            have hrun := runS el (some ⟨b, off, none⟩) len cap L.toNat H.toNat cap hu hn (by first | (rw [hL]; omega) | omega) (by first | (rw [hH]; omega) | omega) (by simp) (by omega) (by omega) (Nat.le_refl _)
            cases h
            by_cases he : H = L
            · rw [if_pos he]
              have hz : H.toNat - L.toNat = 0 := by omega
              rw [hz] at hrun
              refine Does.of hi hrun ?_
              have : ∃ o', (if cap = L.toNat then some (⟨b, off, none⟩ : Addr) else (some (⟨b, off, none⟩ : Addr)).map (·.add (L.toNat * sz'))) = some ⟨b, o', none⟩ := by
                split
                · exact ⟨_, rfl⟩
                · exact ⟨_, by simp [addr_add]; rfl⟩
              obtain ⟨o', ho'⟩ := this
              rw [ho']
              exact Rep.list (xs := []) b o' (cap - L.toNat) sz' [] rfl (Nat.zero_le _) (fun i d v e => by simp at e) rfl ⟨hsz, fun i v e => by simp at e⟩ trivial
            · rw [if_neg he]
              rw [if_neg (by omega)] at hrun
              refine Does.of hi hrun ?_
              simp only [Option.map_some, addr_add]
              have : H.toNat - L.toNat = (H - L).toNat := by omega
              rw [this]
              exact .arr b (cap - L.toNat) hb (by omega) hsz (fun hh => by simp only [Bool.and_eq_true, decide_eq_true_eq] at hh; have := hfl hh.1; omega)
        · cases h
    | @ptr id off b hb =>
      simp only at h
      split at h
      · cases h
      · rename_i hmn
        split at h
        · rename_i hc
          obtain ⟨hk1, c1, c2, c3, hsz⟩ := hc
          cases pm with
          | some p => simp at hmn
          | none =>
            obtain ⟨el, hu, hn⟩ := arT hk1
            generalize hL : ((pl.map Prod.snd).getD 0 : Int) = L at *
            generalize hH : ((ph.map Prod.snd).getD (n : Int) : Int) = H at *
            have hbd := run_bounds (P := P) (w := w) false n n pl ph none L.toNat H.toNat n (by first | (rw [hL]; omega) | omega) (by first | (rw [hH]; omega) | omega) (by simp) (by omega) (by omega) (Nat.le_refl _) (by simp)
            simp only [Option.map_none] at hbd
            have hrun : (Instr.sliceAt t (.pointer (some ⟨b, off, none⟩)) (pl.map fun p => .int p.1 p.2) (ph.map fun p => .int p.1 p.2) none).run P w =
                .ok (.slice (some (if n = L.toNat then ⟨b, off, none⟩ else (⟨b, off, none⟩ : Addr).add (L.toNat * sz))) (H.toNat - L.toNat) (n - L.toNat)) w := by
              simp only [Instr.sliceAt, Sem.run_bind, run_under hu, Result.andThen_ok, Instr.sureAddr, Sem.run_pure, hbd, run_size hn]
            cases h
            by_cases he : H = L
            · rw [if_pos he]
              have hz : H.toNat - L.toNat = 0 := by omega
              rw [hz] at hrun
              refine Does.of hi hrun ?_
              have : ∃ o', (if n = L.toNat then (⟨b, off, none⟩ : Addr) else (⟨b, off, none⟩ : Addr).add (L.toNat * sz)) = ⟨b, o', none⟩ := by
                split
                · exact ⟨_, rfl⟩
                · exact ⟨_, addr_add _ _ _⟩
              obtain ⟨o', ho'⟩ := this
              rw [ho']
              exact Rep.list (xs := []) b o' (n - L.toNat) sz [] rfl (Nat.zero_le _) (fun i d v e => by simp at e) rfl ⟨hsz, fun i v e => by simp at e⟩ trivial
            · rw [if_neg he]
              rw [if_neg (by omega)] at hrun
              refine Does.of hi hrun ?_
              rw [addr_add]
              have : H.toNat - L.toNat = (H - L).toNat := by omega
              rw [this]
              exact .arr b (n - L.toNat) hb (by omega) hsz (fun hh => by simp only [decide_eq_true_eq] at hh; omega)
        · cases h
    | _ => cases h
  · cases h
end
end Go.Fk

/- Soundness of the operations, sixth part: elements, conversions, look-ups. -/
namespace Go.Fk
open Go.RowKit (Below)
section
variable {P : Program} {g : G} {B : Nat} {w0 : Base} {s : St} {w : World}

def bytesV (b : ByteArray) : List Value := b.data.toList.map fun c => .int .u8 c.toNat

/-- Where a slice's (or a string's) elements lie. -/
inductive ElemsAt (w : World) : Value → List Value → Prop where
  | nil : ElemsAt w (.slice none 0 0) []
  | row (b o cap sz : Nat) (vs : List Value) (hcap : vs.length ≤ cap) (hsz : 0 < sz)
      (h : ∀ (i : Nat) (v : Value), vs[i]? = some v → v.cells.size = sz ∧ ∀ (j : Nat) (c : Value), v.cells[j]? = some c → w.cell? ⟨b, o + i * sz + j, none⟩ = some c) :
      ElemsAt w (.slice (some ⟨b, o, none⟩) vs.length cap) vs
  | str (b : ByteArray) : ElemsAt w (.string b) (bytesV b)

def groupV (agg : Bool) (sz : Nat) : Nat → List Value → List Value
  | 0, _ => []
  | n + 1, cs => (if agg then .agg (cs.take sz).toArray else (cs[0]?).getD undef) :: groupV agg sz n (cs.drop sz)

theorem group_length (agg : Bool) (sz : Nat) : ∀ (n : Nat) (cs : List D), (group agg sz n cs).length = n
  | 0, _ => rfl
  | n + 1, cs => by simp only [group, List.length_cons, group_length agg sz n]

theorem groupV_length (agg : Bool) (sz : Nat) : ∀ (n : Nat) (cs : List Value), (groupV agg sz n cs).length = n
  | 0, _ => rfl
  | n + 1, cs => by simp [groupV, groupV_length agg sz n]

theorem group_rep {agg : Bool} {sz : Nat} (h1 : agg = (sz != 1)) (hsz : 0 < sz) : ∀ (n : Nat) (ds : List D) (cs : List Value), RepL g ds cs → ds.all (·.single) = true → n * sz ≤ ds.length → RepL g (group agg sz n ds) (groupV agg sz n cs)
  | 0, _, _, _, _, _ => .nil
  | n + 1, ds, cs, r, hs, hle => by
    rw [Nat.add_mul] at hle
    have hs' : (ds.drop sz).all (·.single) = true := by simp only [List.all_eq_true] at *; exact fun x hx => hs x (List.mem_of_mem_drop hx)
    refine .cons ?_ (group_rep h1 hsz n (ds.drop sz) (cs.drop sz) (r.drop sz) hs' (by simp; omega))
    cases agg with
    | true =>
      simp only [if_true]
      exact .agg _ (r.take sz).1 (r.take sz).2 (by simp only [List.all_eq_true] at *; exact fun x hx => hs x (List.mem_of_mem_take hx))
    | false =>
      simp only [Bool.false_eq_true, if_false]
      have hl : 0 < ds.length := by omega
      obtain ⟨v, hv, hr⟩ := r.get (List.getElem?_eq_getElem hl)
      simp only [List.getElem?_eq_getElem hl, Option.getD_some, hv]
      exact hr

theorem groupV_get {agg : Bool} {sz : Nat} (h1 : agg = (sz != 1)) : ∀ (n : Nat) (cs : List Value) (i : Nat) (v : Value), cs.all (fun c => c.oneCell') = true → n * sz ≤ cs.length → (groupV agg sz n cs)[i]? = some v →
    v.cells.toList = (cs.drop (i * sz)).take sz
  | 0, _, _, _, _, _, h => by simp [groupV] at h
  | n + 1, cs, i, v, ho, hle, h => by
    rw [Nat.add_mul] at hle
    cases i with
    | zero =>
      simp only [groupV, List.getElem?_cons_zero, Option.some.injEq] at h
      subst h
      cases agg with
      | true => simp [Value.cells]
      | false =>
        have hsz : sz = 1 := by simpa using h1.symm
        subst hsz
        have hl : 0 < cs.length := by omega
        have hone : (cs[0]).oneCell' = true := by simp only [List.all_eq_true] at ho; exact ho _ (List.getElem_mem hl)
        simp only [Bool.false_eq_true, if_false, List.getElem?_eq_getElem hl, Option.getD_some, Nat.zero_mul, List.drop_zero]
        have : (cs[0]).cells = #[cs[0]] := by
          cases hh : cs[0] <;> first | rfl | (rw [hh] at hone; cases hone)
        rw [this]
        cases cs with
        | nil => simp at hl
        | cons x r => simp
    | succ i =>
      simp only [groupV, List.getElem?_cons_succ] at h
      have := groupV_get h1 n (cs.drop sz) i v (by simp only [List.all_eq_true] at *; exact fun x hx => ho x (List.mem_of_mem_drop hx)) (by simp; omega) h
      rw [this, List.drop_drop, Nat.add_mul, Nat.one_mul, Nat.add_comm sz]

theorem RepL.oneCell {ds : List D} {cs : List Value} (r : RepL g ds cs) (hs : ds.all (·.single) = true) : cs.all (fun c => c.oneCell') = true := by
  simp only [List.all_eq_true] at *
  intro c hc
  obtain ⟨i, hi⟩ := List.mem_iff_getElem?.1 hc
  have hlt : i < ds.length := by rw [← r.1]; exact (List.getElem?_eq_some_iff.1 hi).1
  exact (r.2 i _ c (List.getElem?_eq_getElem hlt) hi).single_val (hs _ (List.getElem_mem hlt))

theorem bytes_rep (b : ByteArray) : RepL g (b.data.toList.map byteD) (bytesV b) := by
  refine ⟨by simp [bytesV], fun i d v h k => ?_⟩
  simp only [bytesV, List.getElem?_map, Option.map_eq_some_iff] at h k
  obtain ⟨c, h1, rfl⟩ := h
  obtain ⟨c', h2, rfl⟩ := k
  rw [h1] at h2
  cases h2
  exact .v _

theorem elems_rep (hi : Inv g B w0 s w) {agg : Bool} {d : D} {xs : List D} {v : Value} (h : elems s agg d = some xs) (r : Rep g d v) : ∃ vs, RepL g xs vs ∧ ElemsAt w v vs := by
  cases r with
  | @list xs tk b o cap sz vs hl hcap hx hc hr ht =>
    cases h
    refine ⟨vs, ⟨hl, hx⟩, ?_⟩
    rw [← hl]
    exact .row b o cap sz vs (by omega) hr.1 fun i v e => ⟨(hr.2 i v e).1, fun j c k => hi.imm _ _ _ ((hr.2 i v e).2 j c k)⟩
  | @rlist xs b o cap sz vs hl hcap hx hr =>
    cases h
    refine ⟨vs, ⟨hl, hx⟩, ?_⟩
    rw [← hl]
    exact .row b o cap sz vs (by omega) hr.1 fun i v e => ⟨(hr.2 i v e).1, fun j c k => hi.imm _ _ _ ((hr.2 i v e).2 j c k)⟩
  | @arr id off len sz fl b cap hb hcap hsz hfl =>
    simp only [elems] at h
    split at h
    · rename_i ds hg
      split at h
      · rename_i hc
        cases h
        obtain ⟨cs, el, e1, e2, e3⟩ := hi.obj id _ b hg hb
        have e3' : (ds.drop off).all (·.single) = true := by simp only [List.all_eq_true] at *; exact fun x hx => e3 x (List.mem_of_mem_drop hx)
        refine ⟨groupV agg sz len (cs.toList.drop off), group_rep hc.1 hsz len _ _ (e2.drop off) e3' (by simp; omega), ?_⟩
        have hlen := groupV_length agg sz len (cs.toList.drop off)
        have hone := (e2.drop off).oneCell e3'
        have := ElemsAt.row (w := w) b off cap sz (groupV agg sz len (cs.toList.drop off)) (by omega) hsz (fun i v e => by
          have hlt : i < len := by rw [← hlen]; exact (List.getElem?_eq_some_iff.1 e).1
          have hle : len * sz ≤ (cs.toList.drop off).length := by have := e2.1; simp at this ⊢; omega
          have hmul : i * sz + sz ≤ len * sz := by rw [← Nat.succ_mul]; exact Nat.mul_le_mul_right sz hlt
          have key := groupV_get hc.1 len _ i v hone hle e
          refine ⟨?_, fun j c k => ?_⟩
          · have : v.cells.toList.length = sz := by rw [key]; simp at hle ⊢; omega
            simpa using this
          · have k' : v.cells.toList[j]? = some c := by simpa using k
            rw [key, List.getElem?_take] at k'
            split at k'
            · rw [List.getElem?_drop, List.getElem?_drop] at k'
              rw [cell_of_row _ _ _ _ _ _ e1]
              rw [show off + i * sz + j = off + (i * sz + j) from by omega]
              simpa using k'
            · cases k')
        rw [hlen] at this
        exact this
      · cases h
    · cases h
  | v _ =>
    cases v with
    | string b => cases h; exact ⟨bytesV b, bytes_rep b, .str b⟩
    | slice a l c =>
      cases a with
      | some a => cases h
      | none => cases l with
        | succ l => cases h
        | zero => cases c with
          | succ c => cases h
          | zero => cases h; exact ⟨[], .nil, .nil⟩
    | _ => cases h
  | _ => cases h

/-! ### Lengths -/
theorem does_len (hi : Inv g B w0 s w) {t ty : TypeId} {kind : Nat} {dx d : D} {vx : Value} (r : Rep g dx vx) (h : lenQ s kind dx = some d)
    (ht : (P.underlying t = some .string ∧ kind = 0) ∨ (∃ e, P.underlying t = some (.slice e) ∧ kind = 1) ∨ ∃ k e, P.underlying t = some (.map k e) ∧ kind = 2) : Does P (Builtin.len_ #[t] ty #[vx]) g B w0 s s w d := by
  rcases ht with ⟨hu, rfl⟩ | ⟨e, hu, rfl⟩ | ⟨k, e, hu, rfl⟩
  · simp only [lenQ] at h
    split at h
    · cases h
      cases r
      exact Does.of hi (by simp [Builtin.len_, run_under hu]; rfl) (.v _)
    · cases h
  · simp only [lenQ] at h
    have key : ∀ a l c, vx = .slice a l c → d = i64 l → Does P (Builtin.len_ #[t] ty #[vx]) g B w0 s s w d := fun a l c e1 e2 => by
      subst e1; subst e2
      exact Does.of hi (by simp [Builtin.len_, run_under hu]; rfl) (.v _)
    split at h <;> cases h <;> cases r <;> exact key _ _ _ rfl rfl
  · simp only [lenQ] at h
    split at h
    · cases h
      cases r
      exact Does.of hi (by simp [Builtin.len_, run_under hu]; rfl) (.v _)
    · rename_i id
      split at h
      · rename_i es hg
        cases h
        cases r with
        | map b hb =>
          obtain ⟨ents, clock, e1, e2, _⟩ := hi.obj id _ b hg hb
          have hlen : ents.size = es.length := by have := e2.1; simpa using this
          refine Does.of hi (v := goInt es.length) ?_ (.v _)
          have := run_getObj_map (P := P) w b ents clock e1
          simp [Builtin.len_, run_under hu, this, hlen]
      · cases h
    · cases h

end
end Go.Fk

/- Soundness of the operations, seventh part: conversions, assertions, look-ups. -/
namespace Go.Fk
open Go.RowKit (Below)
section
variable {P : Program} {g : G} {B : Nat} {w0 : Base} {s : St} {w : World}

/-- A new row whose first elements are one-cell values that stay. -/
theorem Inv.newList (hi : Inv g B w0 s w) {xs : List D} {vs : List Value} (hx : RepL g xs vs) (hc : D.clL 0 xs = true) (h1 : ∀ v ∈ vs, v.cells = #[v]) {cs : Array Value} {e : TypeId} {fr : Nat × Nat} {w' : World}
    (hw : w'.heap[w.heap.size]? = some (.cells cs e fr)) (hbl : Below w.heap.size w w') (hcs : ∀ (i : Nat) (v : Value), vs[i]? = some v → cs[i]? = some v) (cap : Nat) (hcap : xs.length ≤ cap) (tk : Tk) (htk : tk = .no ∨ (tk = .full ∧ cap = xs.length)) :
    ∃ g', Ext s.hn g g' ∧ Inv g' B w0 s w' ∧ Rep g' (.list xs tk) (.slice (some ⟨w.heap.size, 0, none⟩) xs.length cap) := by
  have hinv := hi.newImm cs e fr vs.length w' hw hbl
  have hle : g.le (g.freeze w.heap.size fun o => if o < vs.length then cs[o]? else none) := G.le_freeze
  refine ⟨_, ⟨hle, fun i _ => rfl⟩, hinv, .list w.heap.size 0 cap 1 vs hx.1 hcap (fun i d v a b => (hx.2 i d v a b).mono hle) hc ⟨by omega, fun i v hv => ?_⟩ ?_⟩
  · have hone := h1 v (List.mem_of_getElem? hv)
    refine ⟨by rw [hone]; rfl, fun j c k => ?_⟩
    rw [hone] at k
    have hj : j = 0 := by
      rcases j with _ | j
      · rfl
      · simp at k
    subst hj
    simp at k
    subst k
    have hlt : i < vs.length := (List.getElem?_eq_some_iff.1 hv).1
    have hnone : g.imm w.heap.size i = none := by
      cases hh : g.imm w.heap.size i with
      | none => rfl
      | some u => exact absurd (hi.imm_lt hh) (Nat.lt_irrefl _)
    simp only [G.freeze, Nat.mul_one, Nat.zero_add, Nat.add_zero, hnone, if_true, hlt]
    exact hcs i v hv
  · rcases htk with rfl | ⟨rfl, h⟩
    · trivial
    · exact h

theorem does_convBytes (hi : Inv g B w0 s w) {src dst e : TypeId} (hs : P.underlying src = some .string) (hd : P.underlying dst = some (.slice e)) (he : P.underlying e = some (.int .u8)) (b : ByteArray) :
    Does P (convert src dst (.string b)) g B w0 s s w (.list (b.data.toList.map byteD) .no) := by
  have hrun := Lib.run_convert_string_bytes (P := P) w src dst e b hs hd he
  have hge : b.size ≤ grownCap w b.size 0 e := grownCap_ge w b.size 0 e
  have hbl : Below w.heap.size w (Lib.bytesWorld w e b) := ⟨rfl, rfl, rfl, by rw [Lib.bytesWorld_size]; omega, fun k hk => Lib.bytesWorld_at_old w e b k hk⟩
  have hlen : (b.data.toList.map byteD).length = b.size := by simp
  have hclL : D.clL 0 (b.data.toList.map byteD) = true := clL_of fun d hd => by
    obtain ⟨c, _, rfl⟩ := List.mem_map.1 hd
    rfl
  obtain ⟨g', h1, h2, h3⟩ := hi.newList (bytes_rep b) hclL (fun v hv => by
      simp only [bytesV, List.mem_map] at hv
      obtain ⟨c, _, rfl⟩ := hv
      rfl) (Lib.bytesWorld_at_new w e b) hbl (fun i v hv => by
      simp only [bytesV, List.getElem?_map, Option.map_eq_some_iff] at hv
      obtain ⟨c, hc, rfl⟩ := hv
      have hc' : b.data[i]? = some c := by simpa using hc
      have hlt : i < b.data.size := (Array.getElem?_eq_some_iff.1 hc').1
      simp only [Lib.bytesCells]
      rw [Array.getElem?_append_left (by simpa using hlt)]
      simp [hc']) (grownCap w b.size 0 e) (by rw [hlen]; exact hge) .no (.inl rfl)
  rw [hlen] at h3
  exact ⟨_, _, g', hrun, h1, h2, h3⟩

theorem does_convRunes (hi : Inv g B w0 s w) {src dst e : TypeId} (hs : P.underlying src = some .string) (hd : P.underlying dst = some (.slice e)) (he : P.underlying e = some (.int .i32)) (b : ByteArray) :
    Does P (convert src dst (.string b)) g B w0 s s w (.list ((Conv.runesFrom b b.size 0 #[]).toList.map .v) .no) := by
  let rs := Conv.runesFrom b b.size 0 #[]
  have hone : ∀ (n i : Nat) (acc : Array Value), (∀ v ∈ acc.toList, ∃ r : Int, v = .int .i32 r) → ∀ v ∈ (Conv.runesFrom b n i acc).toList, ∃ r : Int, v = .int .i32 r := by
    intro n
    induction n with
    | zero => intro i acc h; exact h
    | succ n ih =>
      intro i acc h
      simp only [Conv.runesFrom]
      split
      · refine ih _ _ fun v hv => ?_
        simp only [Array.toList_push, List.mem_append, List.mem_singleton] at hv
        rcases hv with hv | rfl
        · exact h v hv
        · exact ⟨_, rfl⟩
      · exact h
  have hone' := hone b.size 0 #[] (by simp)
  let cap := grownCap w rs.size 0 e
  have hge : rs.size ≤ cap := grownCap_ge w rs.size 0 e
  let cs := rs ++ Array.replicate (cap - rs.size) (Value.int .i32 0)
  have hrun : (convert src dst (.string b)).run P w = .ok (.slice (some ⟨w.heap.size, 0, none⟩) rs.size cap) (w.drew.alloc (.cells cs e)) := by
    simp [convert, run_under hs, run_under hd, run_under he, Conv.stringToRunes, newRow, Question.forced, grownCap, cap, cs, rs]
  have hw : (w.drew.alloc (.cells cs e)).heap[w.heap.size]? = some (.cells cs e (0, 0)) := heap_alloc_new w.drew _
  have hbl : Below w.heap.size w (w.drew.alloc (.cells cs e)) := (Below.refl _ _).drew.alloc (Nat.le_refl _) _
  have hclL : D.clL 0 (rs.toList.map .v) = true := clL_of fun d hd => by
    obtain ⟨c, hc, rfl⟩ := List.mem_map.1 hd
    obtain ⟨r, rfl⟩ := hone' c hc
    rfl
  obtain ⟨g', h1, h2, h3⟩ := hi.newList (RepL.v rs.toList) hclL (fun v hv => by obtain ⟨r, rfl⟩ := hone' v hv; rfl) hw hbl (fun i v hv => by
      have hv' : rs[i]? = some v := by simpa using hv
      have hlt : i < rs.size := (Array.getElem?_eq_some_iff.1 hv').1
      show (rs ++ _)[i]? = _
      rw [Array.getElem?_append_left hlt]
      exact hv') cap (by simpa using hge) .no (.inl rfl)
  have hlen : (rs.toList.map D.v).length = rs.size := by simp
  rw [hlen] at h3
  exact ⟨_, _, g', hrun, h1, h2, h3⟩

/-! ### Bytes and runes as strings -/
theorem bytesOf_spec : ∀ {xs : List D} {l : List UInt8}, bytesOf xs = some l → ∃ ns : List Int, xs = ns.map (fun n => .v (.int .u8 n)) ∧ l = ns.map fun n => UInt8.ofNat n.toNat
  | [], l, h => by cases h; exact ⟨[], rfl, rfl⟩
  | d :: r, l, h => by
    unfold bytesOf at h
    split at h
    · cases ‹_ :: _ = []›
    · rename_i n r' heq
      cases heq
      simp only [Option.map_eq_some_iff] at h
      obtain ⟨l', h1, rfl⟩ := h
      obtain ⟨ns, e1, e2⟩ := bytesOf_spec h1
      exact ⟨n :: ns, by simp [e1], by simp [e2]⟩
    · cases h
theorem runesStr_spec : ∀ {xs : List D} {acc b : ByteArray}, runesStr acc xs = some b → ∃ ns : List Int, xs = ns.map (fun n => .v (.int .i32 n)) ∧ b = ns.foldl (fun r n => r ++ Utf8.encode n) acc
  | [], acc, b, h => by cases h; exact ⟨[], rfl, rfl⟩
  | d :: r, acc, b, h => by
    unfold runesStr at h
    split at h
    · cases ‹_ :: _ = []›
    · rename_i n r' heq
      cases heq
      obtain ⟨ns, e1, e2⟩ := runesStr_spec h
      exact ⟨n :: ns, by simp [e1], by simp [e2]⟩
    · cases h

theorem foldl_pushB (ns : List Int) : ∀ (r : ByteArray), ns.foldl (fun r n => r.push (UInt8.ofNat n.toNat)) r = ⟨r.data ++ (ns.map fun n => UInt8.ofNat n.toNat).toArray⟩ := by
  induction ns with
  | nil => intro r; simp
  | cons n ns ih =>
    intro r
    simp only [List.foldl_cons, ih, List.map_cons]
    congr 1
    apply Array.ext'
    simp [ByteArray.push]

theorem loadInts {k : IntKind} {ns : List Int} {v : Value} (h : ElemsAt w v (ns.map (.int k))) : (v = .slice none 0 0 ∧ ns = []) ∨ (∃ b, v = .string b) ∨
    ∃ b o cap, v = .slice (some ⟨b, o, none⟩) ns.length cap ∧ (loadCells ⟨b, o, none⟩ ns.length).run P w = .ok (ns.map (Value.int k)).toArray w := by
  generalize hvs : ns.map (Value.int k) = vs at h
  cases h with
  | nil => exact .inl ⟨rfl, by simpa using hvs⟩
  | row b o cap sz vs hcap hsz hh =>
    subst hvs
    refine .inr (.inr ⟨b, o, cap, by simp, ?_⟩)
    have := run_loadCells_list (P := P) w ⟨b, o, none⟩ (ns.map (Value.int k)) (fun j v hv => by
      rw [addr_add]
      obtain ⟨h1, h2⟩ := hh j v hv
      simp only [List.getElem?_map, Option.map_eq_some_iff] at hv
      obtain ⟨n, _, rfl⟩ := hv
      have hs1 : sz = 1 := by simpa [Value.cells] using h1.symm
      subst hs1
      have := h2 0 (.int k n) (by simp [Value.cells])
      simpa using this)
    simpa using this
  | str b => exact .inr (.inl ⟨b, rfl⟩)

theorem does_convStr (hi : Inv g B w0 s w) {src dst e : TypeId} {runes : Bool} {dx d : D} {vx : Value} (hs : P.underlying src = some (.slice e)) (hd : P.underlying dst = some .string)
    (he : P.underlying e = some (.int (if runes then .i32 else .u8))) (r : Rep g dx vx) (h : convStrQ s runes dx = some d) : Does P (convert src dst vx) g B w0 s s w d := by
  unfold convStrQ at h
  split at h
  · cases h
  · rename_i hns
    split at h
    · rename_i xs hel
      obtain ⟨vs, hr, hat⟩ := elems_rep hi hel r
      have nostr : ∀ b, vx ≠ .string b := fun b e1 => by
        subst e1
        cases r with
        | v _ => exact hns rfl
        | un => cases hel
        | sym => cases hel
      have conv : (convert src dst vx).run P w = (if runes then Conv.runesToString vx else Conv.bytesToString vx).run P w := by
        cases hat with
        | nil => cases runes <;> simp [convert, run_under hs, run_under hd, run_under he]
        | row b o cap sz vs hcap hsz hh => cases runes <;> simp [convert, run_under hs, run_under hd, run_under he]
        | str b => exact absurd rfl (nostr b)
      unfold Does
      rw [conv]
      cases runes with
      | true =>
        simp only [if_true, Option.map_eq_some_iff] at h ⊢
        obtain ⟨b, hb, rfl⟩ := h
        obtain ⟨ns, e1, e2⟩ := runesStr_spec hb
        have hvs : vs = ns.map (.int .i32) := by
          subst e1
          have : RepL g ((ns.map (Value.int .i32)).map D.v) vs := by simpa [List.map_map, Function.comp_def] using hr
          exact RepL.v_inv this
        subst hvs
        refine ⟨.string b, w, g, ?_, Ext.refl _ _, hi, .v _⟩
        rcases loadInts (P := P) hat with ⟨rfl, rfl⟩ | ⟨b', hb'⟩ | ⟨bb, o, cap, rfl, hload⟩
        · simp only [List.foldl_nil] at e2
          simp [Conv.runesToString, e2]
        · exact absurd hb' (nostr b')
        · rw [run_runesToString w _ _ cap ns hload, e2]
          rfl
      | false =>
        simp only [Bool.false_eq_true, if_false, Option.map_eq_some_iff] at h ⊢
        obtain ⟨l, hl, rfl⟩ := h
        obtain ⟨ns, e1, e2⟩ := bytesOf_spec hl
        have hvs : vs = ns.map (.int .u8) := by
          subst e1
          have : RepL g ((ns.map (Value.int .u8)).map D.v) vs := by simpa [List.map_map, Function.comp_def] using hr
          exact RepL.v_inv this
        subst hvs
        refine ⟨.string ⟨l.toArray⟩, w, g, ?_, Ext.refl _ _, hi, .v _⟩
        rcases loadInts (P := P) hat with ⟨rfl, rfl⟩ | ⟨b', hb'⟩ | ⟨bb, o, cap, rfl, hload⟩
        · simp only [List.map_nil] at e2
          subst e2
          simp [Conv.bytesToString]
          rfl
        · exact absurd hb' (nostr b')
        · rw [run_bytesToString w _ _ cap ns hload, foldl_pushB, e2]
          congr 2
          simp
    · cases h

/-! ### Interfaces, numbers -/
theorem does_tassert (hi : Inv g B w0 s w) {xt t : TypeId} {zero : Value} {ok : Bool} {dx d : D} {vx : Value} {u : TypeDesc} (hu : P.underlying t = some u) (hni : ∀ ms, u ≠ .interface ms) (hz : tZero P t = some zero)
    (r : Rep g dx vx) (h : tassertQ t zero ok dx = some d) : Does P (Instr.typeAssert vx xt t ok) g B w0 s s w d := by
  have hzr : Rep g (zval zero) zero := Rep.zval (tZero_spec hz).1
  have pair : ∀ {a : D} {v : Value} {b : Bool}, Rep g a v → Rep g (.tup [a, .v (.bool b)]) (.tuple #[v, .bool b]) := fun {a v b} ra =>
    Rep.tup [v, .bool b] rfl (RepL.cons ra (.cons (.v _) .nil)).2
  have nI : ∀ (x : Value) (k : TypeDesc → Value → Sem Value), True := fun _ _ => trivial
  cases r with
  | @iface t' d' v rv =>
    simp only [tassertQ] at h
    have run1 : (Instr.typeAssert (.iface t' v) xt t ok).run P w = if t' = t then .ok (if ok then .tuple #[v, .bool true] else v) w else if ok then .ok (.tuple #[zero, .bool false]) w else (Instr.typeAssert (.iface t' v) xt t ok).run P w := by
      unfold Instr.typeAssert
      simp only [Sem.run_bind, run_under hu, Result.andThen_ok]
      cases u <;> first | (exact absurd rfl (hni _)) | (by_cases ht : t' = t <;> cases ok <;> simp [ht, run_zero hz])
    split at h
    · rename_i ht
      rw [if_pos ht] at run1
      cases ok with
      | true => cases h; exact Does.of hi run1 (pair rv)
      | false => cases h; exact Does.of hi run1 rv
    · rename_i ht
      rw [if_neg ht] at run1
      split at h
      · rename_i hok
        rw [if_pos hok] at run1
        cases h
        exact Does.of hi run1 (pair hzr)
      · cases h
  | v _ =>
    cases vx with
    | nilIface =>
      simp only [tassertQ] at h
      split at h
      · rename_i hok
        subst hok
        cases h
        refine Does.of hi (v := .tuple #[zero, .bool false]) ?_ (pair hzr)
        unfold Instr.typeAssert
        simp only [Sem.run_bind, run_under hu, Result.andThen_ok]
        cases u <;> first | (exact absurd rfl (hni _)) | simp [run_zero hz]
      · cases h
    | _ => cases h
  | _ => cases h

theorem does_minmax (hi : Inv g B w0 s w) (mx : Bool) : ∀ (ds : List D) (vs : List Value) (d0 d : D) (v0 : Value), Rep g d0 v0 → RepL g ds vs → minmaxD mx d0 ds = some d → 
    Does P (vs.foldlM (if mx then Builtin.max2 else Builtin.min2) v0) g B w0 s s w d
  | [], vs, d0, d, v0, r0, r, h => by
    cases h
    rw [r.nil_inv]
    exact Does.of hi rfl r0
  | d1 :: ds, vs, d0, d, v0, r0, r, h => by
    obtain ⟨v1, ws, rfl, r1, r2⟩ := r.cons_inv
    unfold minmaxD at h
    split at h
    · cases ‹_ :: _ = []›
    · rename_i k x k' y r' heq
      cases heq
      cases r0
      cases r1
      split at h
      · rename_i hk
        subst hk
        have ih := does_minmax hi mx _ ws _ d (.int k (if mx then (if y > x then y else x) else (if y < x then y else x))) (.v _) r2 h
        obtain ⟨v, w', g', h1, h2⟩ := ih
        refine ⟨v, w', g', ?_, h2⟩
        rw [List.foldlM_cons, Sem.run_bind]
        cases mx with
        | true => simpa [Builtin.max2] using h1
        | false => simpa [Builtin.min2] using h1
      · cases h
    · cases h
end
end Go.Fk

/- Soundness of the operations, eighth part: maps' keys, slice literals. -/
namespace Go.Fk
open Go.RowKit (Below)
section
variable {P : Program} {g : G} {B : Nat} {w0 : Base} {s : St} {w : World}

/-! ### Keys -/
theorem keyK_spec {t : TypeId} {kk : KeyK} (h : keyK P t = some kk) :
    (∃ k u, kk = .one k ∧ P.underlying t = some u ∧ ((k = .b ∧ u = .bool) ∨ (k = .i ∧ ∃ j, u = .int j) ∨ (k = .s ∧ u = .string))) ∨
    (∃ ks fs, kk = .cells ks ∧ P.underlying t = some (.struct fs) ∧ flat P 20 t = some ks) := by
  unfold keyK at h
  split at h
  · rename_i hu; cases h; exact .inl ⟨_, _, rfl, hu, .inl ⟨rfl, rfl⟩⟩
  · rename_i j hu; cases h; exact .inl ⟨_, _, rfl, hu, .inr (.inl ⟨rfl, j, rfl⟩)⟩
  · rename_i hu; cases h; exact .inl ⟨_, _, rfl, hu, .inr (.inr ⟨rfl, rfl⟩)⟩
  · rename_i fs hu
    simp only [Option.map_eq_some_iff] at h
    obtain ⟨ks, h1, rfl⟩ := h
    exact .inr ⟨ks, fs, rfl, hu, h1⟩
  · cases h

/-- Two keys, held against each other: how the model sees it. -/
theorem keq_run {t : TypeId} {kk : KeyK} (h : keyK P t = some kk) {da db : D} {a b : Value} {r : Bool} (ra : Rep g da a) (rb : Rep g db b) (hq : keq kk da db = some r) :
    (∃ u, P.underlying t = some u ∧ ((∃ k, kk = .one k ∧ Instr.sameNow u a b = some r) ∨ (∃ ks, kk = .cells ks ∧ Instr.sameNow u a b = none ∧ (Op.equal t a b).run P w = .ok r w))) := by
  rcases keyK_spec h with ⟨k, u, rfl, hu, hk⟩ | ⟨ks, fs, rfl, hu, hf⟩
  · refine ⟨u, hu, .inl ⟨k, rfl, ?_⟩⟩
    simp only [keq] at hq
    obtain ⟨x, y, rfl, rfl⟩ := veq_v hq
    cases ra; cases rb
    rcases hk with ⟨rfl, rfl⟩ | ⟨rfl, j, rfl⟩ | ⟨rfl, rfl⟩
    · cases a <;> cases b <;> simp only [veq] at hq <;> first | (cases hq; done) | (cases hq; rfl)
    · cases a <;> cases b <;> simp only [veq] at hq <;> first | (cases hq; done) | skip
      split at hq
      · rename_i hk; subst hk; cases hq; simp [Instr.sameNow]
      · cases hq
    · cases a <;> cases b <;> simp only [veq] at hq <;> first | (cases hq; done) | (cases hq; simp [Instr.sameNow, beq_data])
  · refine ⟨_, hu, .inr ⟨ks, rfl, ?_⟩⟩
    unfold keq at hq
    split at hq
    · rename_i heq; cases heq
    · rename_i ks' a' b' heq
      cases heq
      obtain ⟨xs, ys, rfl, rfl⟩ := veqs_map_v hq
      have ha := rep_agg_v ra
      have hb := rep_agg_v rb
      subst ha; subst hb
      have hval : ∀ zs, valOf P t zs = .agg zs.toArray := fun zs => by unfold valOf; rw [hu]
      have key := run_eqFlat (P := P) (w := w) 20 t ks hf 9980 xs ys r hq
      rw [hval, hval] at key
      exact ⟨rfl, key⟩
    · cases hq

theorem findE_spec {kk : KeyK} {k : D} : ∀ {es : List (D × D)} {r : Option D}, findE kk k es = some r →
    (r = none ∧ ∀ (i : Nat) (e : D × D), es[i]? = some e → keq kk k e.1 = some false) ∨
    (∃ (j : Nat) (e : D × D), es[j]? = some e ∧ r = some e.2 ∧ keq kk k e.1 = some true ∧ ∀ (i : Nat) (e' : D × D), i < j → es[i]? = some e' → keq kk k e'.1 = some false)
  | [], r, h => by cases h; exact .inl ⟨rfl, fun i e h => by simp at h⟩
  | (k', x) :: es, r, h => by
    simp only [findE] at h
    split at h
    · rename_i hq; cases h; exact .inr ⟨0, (k', x), rfl, rfl, hq, fun i e' hi => by omega⟩
    · rename_i hq
      rcases findE_spec h with ⟨rfl, h1⟩ | ⟨j, e, h1, h2, h3, h4⟩
      · refine .inl ⟨rfl, fun i e he => ?_⟩
        cases i with
        | zero => simp at he; subst he; exact hq
        | succ i => exact h1 i e (by simpa using he)
      · refine .inr ⟨j + 1, e, by simpa using h1, h2, h3, fun i e' hi he => ?_⟩
        cases i with
        | zero => simp at he; subst he; exact hq
        | succ i => exact h4 i e' (by omega) (by simpa using he)
    · cases h

theorem findNow_found {u : TypeDesc} {k : Value} : ∀ (es : List MapEntry) (st j : Nat) (e : MapEntry), es[j]? = some e → Instr.sameNow u k e.key = some true →
    (∀ (i : Nat) (e' : MapEntry), i < j → es[i]? = some e' → Instr.sameNow u k e'.key = some false) → Instr.findNow u k es st = some (some (st + j, e.val))
  | [], _, _, _, h, _, _ => by simp at h
  | x :: es, st, j, e, h, hq, hb => by
    cases j with
    | zero => simp at h; subst h; simp [Instr.findNow, hq]
    | succ j =>
      have h0 := hb 0 x (by omega) rfl
      have := findNow_found es (st + 1) j e (by simpa using h) hq (fun i e' hi he => hb (i + 1) e' (by omega) (by simpa using he))
      simp only [Instr.findNow, h0, this]
      congr 3
      omega
theorem findNow_none {u : TypeDesc} {k : Value} : ∀ (es : List MapEntry) (st : Nat), (∀ (i : Nat) (e' : MapEntry), es[i]? = some e' → Instr.sameNow u k e'.key = some false) → Instr.findNow u k es st = some none
  | [], _, _ => rfl
  | x :: es, st, hb => by
    have h0 := hb 0 x rfl
    simp only [Instr.findNow, h0]
    exact findNow_none es (st + 1) fun i e' he => hb (i + 1) e' (by simpa using he)
theorem findAsking_found {t : TypeId} {k : Value} : ∀ (es : List MapEntry) (st j : Nat) (e : MapEntry), es[j]? = some e → (Op.equal t k e.key).run P w = .ok true w →
    (∀ (i : Nat) (e' : MapEntry), i < j → es[i]? = some e' → (Op.equal t k e'.key).run P w = .ok false w) → (Instr.findAsking t k es st).run P w = .ok (some (st + j, e.val)) w
  | [], _, _, _, h, _, _ => by simp at h
  | x :: es, st, j, e, h, hq, hb => by
    cases j with
    | zero => simp at h; subst h; simp [Instr.findAsking, hq]
    | succ j =>
      have h0 := hb 0 x (by omega) rfl
      have := findAsking_found es (st + 1) j e (by simpa using h) hq (fun i e' hi he => hb (i + 1) e' (by omega) (by simpa using he))
      simp only [Instr.findAsking, Sem.run_bind, h0, Result.andThen_ok, Bool.false_eq_true, if_false, this]
      congr 3
      omega
theorem findAsking_none {t : TypeId} {k : Value} : ∀ (es : List MapEntry) (st : Nat), (∀ (i : Nat) (e' : MapEntry), es[i]? = some e' → (Op.equal t k e'.key).run P w = .ok false w) →
    (Instr.findAsking t k es st).run P w = .ok none w
  | [], _, _ => rfl
  | x :: es, st, hb => by
    have h0 := hb 0 x rfl
    simp only [Instr.findAsking, Sem.run_bind, h0, Result.andThen_ok, Bool.false_eq_true, if_false]
    exact findAsking_none es (st + 1) fun i e' he => hb (i + 1) e' (by simpa using he)

/-- A key, looked for among a map's entries. -/
theorem run_findKey' {t : TypeId} {kk : KeyK} (h : keyK P t = some kk) {dk : D} {vk : Value} (rk : Rep g dk vk) {es : List (D × D)} {ents : List MapEntry} (hk : RepL g (es.map (·.1)) (ents.map (·.key)))
    (hv : RepL g (es.map (·.2)) (ents.map (·.val))) {r : Option D} (hf : findE kk dk es = some r) :
    (r = none ∧ (Instr.findKey t vk ents).run P w = .ok none w ∧ ∀ (i : Nat) (e : D × D), es[i]? = some e → keq kk dk e.1 = some false) ∨
    (∃ (j : Nat) (e : D × D) (m : MapEntry), es[j]? = some e ∧ ents[j]? = some m ∧ r = some e.2 ∧ Rep g e.2 m.val ∧ (Instr.findKey t vk ents).run P w = .ok (some (j, m.val)) w ∧ keq kk dk e.1 = some true ∧
      ∀ (i : Nat) (e' : D × D), i < j → es[i]? = some e' → keq kk dk e'.1 = some false) := by
  have hlen : ents.length = es.length := by have := hk.1; simpa using this
  have hrep : ∀ (i : Nat) (e : D × D) (m : MapEntry), es[i]? = some e → ents[i]? = some m → Rep g e.1 m.key := fun i e m a b => hk.2 i e.1 m.key (by simp [a]) (by simp [b])
  have hent : ∀ (i : Nat) (m : MapEntry), ents[i]? = some m → ∃ e, es[i]? = some e := fun i m a => by
    have : i < es.length := by rw [← hlen]; exact (List.getElem?_eq_some_iff.1 a).1
    exact ⟨es[i], List.getElem?_eq_getElem this⟩
  have hesent : ∀ (i : Nat) (e : D × D), es[i]? = some e → ∃ m, ents[i]? = some m := fun i e a => by
    have : i < ents.length := by rw [hlen]; exact (List.getElem?_eq_some_iff.1 a).1
    exact ⟨ents[i], List.getElem?_eq_getElem this⟩
  obtain ⟨u, hu⟩ : ∃ u, P.underlying t = some u := by
    rcases keyK_spec h with ⟨k, u, rfl, hu, _⟩ | ⟨ks, fs, rfl, hu, _⟩
    · exact ⟨u, hu⟩
    · exact ⟨_, hu⟩
  have q : ∀ (i : Nat) (e : D × D) (m : MapEntry) (b : Bool), es[i]? = some e → ents[i]? = some m → keq kk dk e.1 = some b →
      ((∃ k, kk = .one k) ∧ Instr.sameNow u vk m.key = some b) ∨ ((∃ ks, kk = .cells ks) ∧ Instr.sameNow u vk m.key = none ∧ (Op.equal t vk m.key).run P w = .ok b w) := fun i e m b a c d => by
    obtain ⟨u', hu', hh⟩ := keq_run (w := w) h rk (hrep i e m a c) d
    rw [hu] at hu'
    cases hu'
    rcases hh with ⟨k, rfl, h1⟩ | ⟨ks, rfl, h1, h2⟩
    · exact .inl ⟨⟨k, rfl⟩, h1⟩
    · exact .inr ⟨⟨ks, rfl⟩, h1, h2⟩
  rcases findE_spec hf with ⟨rfl, hall⟩ | ⟨j, e, hj, rfl, hq, hbef⟩
  · refine .inl ⟨rfl, ?_, hall⟩
    cases hkk : kk with
    | one k =>
      have hn := findNow_none (u := u) (k := vk) ents 0 (fun i m a => by
        obtain ⟨e, he⟩ := hent i m a
        rcases q i e m false he a (hall i e he) with ⟨_, h1⟩ | ⟨⟨ks, h1⟩, _⟩
        · exact h1
        · rw [hkk] at h1; cases h1)
      simp [Instr.findKey, run_under hu, hn]
    | cells ks =>
      cases hents : ents with
      | nil => simp [Instr.findKey, run_under hu, Instr.findNow]
      | cons m0 rest =>
        rw [← hents]
        have a0 : ents[0]? = some m0 := by rw [hents]; rfl
        obtain ⟨e0, he0⟩ := hent 0 m0 a0
        have hnow : Instr.findNow u vk ents 0 = none := by
          rcases q 0 e0 m0 false he0 a0 (hall 0 e0 he0) with ⟨⟨k, h1⟩, _⟩ | ⟨_, h1, _⟩
          · rw [hkk] at h1; cases h1
          · rw [hents]; simp [Instr.findNow, h1]
        have hn := findAsking_none (P := P) (w := w) (t := t) (k := vk) ents 0 (fun i m a => by
          obtain ⟨e, he⟩ := hent i m a
          rcases q i e m false he a (hall i e he) with ⟨⟨k, h1⟩, _⟩ | ⟨_, _, h2⟩
          · rw [hkk] at h1; cases h1
          · exact h2)
        simp [Instr.findKey, run_under hu, hnow, hn]
  · obtain ⟨m, hm⟩ := hesent j e hj
    refine .inr ⟨j, e, m, hj, hm, rfl, hv.2 j e.2 m.val (by simp [hj]) (by simp [hm]), ?_, hq, hbef⟩
    cases hkk : kk with
    | one k =>
      have hn := findNow_found (u := u) (k := vk) ents 0 j m hm (by
        rcases q j e m true hj hm hq with ⟨_, h1⟩ | ⟨⟨ks, h1⟩, _⟩
        · exact h1
        · rw [hkk] at h1; cases h1) (fun i m' hi a => by
        obtain ⟨e', he⟩ := hent i m' a
        rcases q i e' m' false he a (hbef i e' hi he) with ⟨_, h1⟩ | ⟨⟨ks, h1⟩, _⟩
        · exact h1
        · rw [hkk] at h1; cases h1)
      rw [Nat.zero_add] at hn
      simp [Instr.findKey, run_under hu, hn]
    | cells ks =>
      have hne : ∃ m0 rest, ents = m0 :: rest := by
        cases hents : ents with
        | nil => rw [hents] at hm; simp at hm
        | cons m0 rest => exact ⟨m0, rest, rfl⟩
      obtain ⟨m0, rest, hents⟩ := hne
      have a0 : ents[0]? = some m0 := by rw [hents]; rfl
      obtain ⟨e0, he0⟩ := hent 0 m0 a0
      have hnow : Instr.findNow u vk ents 0 = none := by
        have : ∃ b, keq kk dk e0.1 = some b := by
          cases j with
          | zero => rw [hj] at he0; cases he0; exact ⟨true, hq⟩
          | succ j => exact ⟨false, hbef 0 e0 (by omega) he0⟩
        obtain ⟨b, hb⟩ := this
        rcases q 0 e0 m0 b he0 a0 hb with ⟨⟨k, h1⟩, _⟩ | ⟨_, h1, _⟩
        · rw [hkk] at h1; cases h1
        · rw [hents]; simp [Instr.findNow, h1]
      have hn := findAsking_found (P := P) (w := w) (t := t) (k := vk) ents 0 j m hm (by
        rcases q j e m true hj hm hq with ⟨⟨k, h1⟩, _⟩ | ⟨_, _, h2⟩
        · rw [hkk] at h1; cases h1
        · exact h2) (fun i m' hi a => by
        obtain ⟨e', he⟩ := hent i m' a
        rcases q i e' m' false he a (hbef i e' hi he) with ⟨⟨k, h1⟩, _⟩ | ⟨_, _, h2⟩
        · rw [hkk] at h1; cases h1
        · exact h2)
      rw [Nat.zero_add] at hn
      simp [Instr.findKey, run_under hu, hnow, hn]

theorem run_checkFields {n : Nat} {em : Bool} (fl : TypeId → Option (List SK)) (hfl : ∀ t ks, fl t = some ks → ∃ d, flat P d t = some ks)
    (ih : ∀ t ks, fl t = some ks → ∀ (xs : List Value), xs.length = ks.length → (Instr.checkKey em n t (valOf P t xs)).run P w = .ok () w) :
    ∀ (fs : List Field) (o : Nat) (ks : List SK), flatFs P fl fs o = some ks → ∀ (xs : Array Value), xs.size = o + ks.length →
      (forIn fs PUnit.unit (fun f _ => do if f.name ≠ "_" then do let v ← part f.type xs f.offset; Instr.checkKey em n f.type v; pure (ForInStep.yield PUnit.unit) else pure (ForInStep.yield PUnit.unit)) : Sem PUnit).run P w = .ok PUnit.unit w
  | [], _, _, _, _, _ => by simp
  | f :: fs, o, ks, h, xs, hx => by
    simp only [flatFs] at h
    split at h
    · rename_i hc
      obtain ⟨hoff, hname⟩ := hc
      split at h
      · rename_i k hk
        split at h
        · rename_i hsz
          simp only [Option.map_eq_some_iff] at h
          obtain ⟨ls, hls, rfl⟩ := h
          simp only [List.length_append] at hx
          obtain ⟨d, hd⟩ := hfl _ _ hk
          have p1 := run_part_val (P := P) (w := w) hd (off := o) (cs := xs) hsz (by omega)
          have e1 := ih _ _ hk ((xs.toList.drop o).take k.length) (by simp; omega)
          have rec_ := run_checkFields fl hfl ih fs (o + k.length) ls hls xs (by omega)
          subst hoff
          simp only [List.forIn_cons, ne_eq, hname, not_false_eq_true, if_true, Sem.run_bind, p1, e1, Result.andThen_ok, Sem.run_pure]
          exact rec_
        · cases h
      · cases h
    · cases h

theorem run_checkFlat {em : Bool} : ∀ (d : Nat) (t : TypeId) (ks : List SK), flat P d t = some ks → ∀ (m : Nat) (xs : List Value), xs.length = ks.length →
    (Instr.checkKey em (d + m) t (valOf P t xs)).run P w = .ok () w
  | 0, _, _, h, _, _, _ => by cases h
  | d + 1, t, ks, h, m, xs, hx => by
    have hm : d + 1 + m = (d + m) + 1 := by omega
    rw [hm]
    rcases flatOne h with ⟨fs, hu⟩ | ⟨ha, k, rfl, hk⟩
    · have hval : valOf P t xs = .agg xs.toArray := by unfold valOf; rw [hu]
      rw [hval]
      simp only [flat, hu] at h
      split at h
      · cases h
      · have key := run_checkFields (P := P) (w := w) (n := d + m) (em := em) (flat P d) (fun t ks h => ⟨d, h⟩) (fun t ks h xs hx => run_checkFlat d t ks h m xs hx) fs.toList 0 ks h xs.toArray (by simpa using hx)
        simp only [Instr.checkKey, Sem.run_bind, run_under hu, Result.andThen_ok]
        rw [← Array.forIn_toList]
        show ((Sem.run P (forIn fs.toList PUnit.unit _) w).andThen _) = _
        rw [key]
        rfl
    · have hs : ∀ u, P.underlying t = some u → (u = .bool ∨ (∃ j, u = .int j) ∨ u = .string) → (Instr.checkKey em (d + m + 1) t (valOf P t xs)).run P w = .ok () w := fun u hu hk => by
        rcases hk with rfl | ⟨j, rfl⟩ | rfl <;> simp [Instr.checkKey, run_under hu]
      rcases hk with ⟨_, hu⟩ | ⟨_, j, hu⟩ | ⟨_, hu⟩
      · exact hs _ hu (.inl rfl)
      · exact hs _ hu (.inr (.inl ⟨j, rfl⟩))
      · exact hs _ hu (.inr (.inr rfl))

theorem isKey_agg {ks : List SK} {dk : D} {vk : Value} (h : D.isKey (.cells ks) dk = true) (rk : Rep g dk vk) : ∃ xs : List Value, vk = .agg xs.toArray ∧ xs.length = ks.length := by
  cases dk <;> simp only [D.isKey] at h <;> first | (cases h; done) | skip
  rename_i a
  simp only [Bool.and_eq_true, beq_iff_eq] at h
  cases rk with
  | agg vs hl hx hs => exact ⟨vs, rfl, by omega⟩

theorem run_checkKeyD {t : TypeId} {kk : KeyK} (h : keyK P t = some kk) {dk : D} {vk : Value} (rk : Rep g dk vk) (hk : D.isKey kk dk = true) (em : Bool) : (Instr.checkKey em 10000 t vk).run P w = .ok () w := by
  rcases keyK_spec h with ⟨k, u, rfl, hu, hh⟩ | ⟨ks, fs, rfl, hu, hf⟩
  · have : ∀ n, (Instr.checkKey em (n + 1) t vk).run P w = .ok () w := fun n => by
      rcases hh with ⟨_, rfl⟩ | ⟨_, j, rfl⟩ | ⟨_, rfl⟩ <;> simp [Instr.checkKey, run_under hu]
    exact this 9999
  · obtain ⟨xs, rfl, hl⟩ := isKey_agg hk rk
    have := run_checkFlat (P := P) (w := w) (em := em) 20 t ks hf 9980 xs hl
    have hval : valOf P t xs = .agg xs.toArray := by unfold valOf; rw [hu]
    rw [hval] at this
    exact this

theorem mapOf_rep (hi : Inv g B w0 s w) {dm : D} {vm : Value} {es : List (D × D)} (h : mapOf s dm = some es) (r : Rep g dm vm) :
    (vm = .map none ∧ es = []) ∨ ∃ id b ents clock, dm = .map id ∧ vm = .map (some b) ∧ g.blk id = some b ∧ s.get id = some (.map es) ∧ w.heap[b]? = some (.map ents clock) ∧
      RepL g (es.map (·.1)) (ents.toList.map (·.key)) ∧ RepL g (es.map (·.2)) (ents.toList.map (·.val)) ∧ (ents.toList.map (·.born)).Nodup ∧ ∀ e ∈ ents.toList, e.born < clock := by
  unfold mapOf at h
  split at h
  · cases h; cases r; exact .inl ⟨rfl, rfl⟩
  · rename_i id
    split at h
    · rename_i es' hg
      cases h
      cases r with
      | map b hb =>
        obtain ⟨ents, clock, e1, e2, e3, e4, e5⟩ := hi.obj id _ b hg hb
        exact .inr ⟨id, b, ents, clock, rfl, rfl, hb, hg, e1, e2, e3, e4, e5⟩
    · cases h
  · cases h

theorem does_lookup (hi : Inv g B w0 s w) {t kt el : TypeId} {kk : KeyK} {zero : Value} {ok : Bool} {dm dk d : D} {vm vk : Value} (hu : P.underlying t = some (.map kt el)) (hk : keyK P kt = some kk) (hz : tZero P el = some zero)
    (rm : Rep g dm vm) (rk : Rep g dk vk) (h : lookupQ s kk zero ok dm dk = some d) : Does P (Instr.lookup t vm vk ok) g B w0 s s w d := by
  unfold lookupQ at h
  split at h
  · cases h
  rename_i hkey
  have hkey : D.isKey kk dk = true := by simpa using hkey
  split at h
  · rename_i es hm
    have hzr : Rep g (zval zero) zero := Rep.zval (tZero_spec hz).1
    have pair : ∀ {a : D} {v : Value} {b : Bool}, Rep g a v → Rep g (if ok then .tup [a, .v (.bool b)] else a) (if ok then .tuple #[v, .bool b] else v) := fun {a v b} ra => by
      cases ok with
      | true => exact Rep.tup [v, .bool b] rfl (RepL.cons ra (.cons (.v _) .nil)).2
      | false => exact ra
    rcases mapOf_rep hi hm rm with ⟨rfl, rfl⟩ | ⟨id, b, ents, clock, rfl, rfl, hb, hg, e1, e2, e3, _⟩
    · simp only [findE] at h
      cases h
      have hf : (Instr.findKey kt vk []).run P w = .ok none w := by
        rcases run_findKey' (w := w) hk rk (es := []) (ents := []) .nil .nil (r := none) rfl with ⟨_, h1, _⟩ | ⟨j, e, m, h1, _⟩
        · exact h1
        · simp at h1
      refine Does.of hi (v := if ok then .tuple #[zero, .bool false] else zero) ?_ (pair hzr)
      have hc := run_checkKeyD (w := w) hk rk hkey true
      have e0 : (#[] : Array MapEntry).isEmpty = true := rfl
      simp only [Instr.lookup, Sem.run_bind, run_under hu, Result.andThen_ok, Sem.run_pure, e0, hc, hf, run_zero hz]
    · have hc := run_checkKeyD (w := w) hk rk hkey ents.isEmpty
      have hgo := run_getObj_map (P := P) w b ents clock e1
      split at h
      · rename_i x hf
        cases h
        rcases run_findKey' (w := w) hk rk e2 e3 hf with ⟨h0, _⟩ | ⟨j, e, m, _, _, hr, hrep, hrun, _⟩
        · cases h0
        · cases hr
          refine Does.of hi (v := if ok then .tuple #[m.val, .bool true] else m.val) ?_ (pair hrep)
          simp only [Instr.lookup, Sem.run_bind, run_under hu, Result.andThen_ok, Sem.run_pure, hgo, hc, hrun]
      · rename_i hf
        cases h
        rcases run_findKey' (w := w) hk rk e2 e3 hf with ⟨_, hrun, _⟩ | ⟨j, e, m, _, _, hr, _⟩
        · refine Does.of hi (v := if ok then .tuple #[zero, .bool false] else zero) ?_ (pair hzr)
          simp only [Instr.lookup, Sem.run_bind, run_under hu, Result.andThen_ok, Sem.run_pure, hgo, hc, hrun, run_zero hz]
        · cases hr
      · cases h
  · cases h
end
end Go.Fk

