/- A sound abstract interpreter for the code of the model: part C of five, joined of smaller texts. -/
import Derived.Test.YtjlaccjneaomgaaGreatDoorKB
import Derived.MapKept
import Derived.Laws.MakeOwn
import Derived.Deep.WholeRow
set_option linter.all false
set_option linter.unusedVariables false
set_option linter.unusedSimpArgs false
set_option linter.unusedSectionVars false

/- Soundness of the operations, ninth part: slice literals; all quiet operations together. -/
namespace Go.Fk
open Go.RowKit (Below)
section
variable {P : Program} {g : G} {B : Nat} {w0 : Base} {s : St} {w : World}

def flatV (vs : List Value) : List Value := vs.flatMap fun v => v.cells.toList

theorem flatV_len {sz : Nat} : ∀ {vs : List Value}, (∀ v ∈ vs, v.cells.size = sz) → (flatV vs).length = vs.length * sz
  | [], _ => by simp [flatV]
  | v :: vs, h => by
    have h1 := h v (by simp)
    have ih := flatV_len (vs := vs) fun x hx => h x (by simp [hx])
    simp only [flatV, List.flatMap_cons, List.length_append, Array.length_toList, List.length_cons] at *
    rw [h1, ih, Nat.add_mul]
    omega
theorem flatV_get {sz : Nat} : ∀ {vs : List Value} {i : Nat} {v : Value}, (∀ v ∈ vs, v.cells.size = sz) → vs[i]? = some v → ∀ {j : Nat} {c : Value}, v.cells[j]? = some c → (flatV vs)[i * sz + j]? = some c
  | [], i, v, _, h, _, _, _ => by simp at h
  | x :: vs, i, v, hs, h, j, c, hc => by
    have h1 := hs x (by simp)
    simp only [flatV, List.flatMap_cons]
    cases i with
    | zero =>
      simp at h
      subst h
      rw [Nat.zero_mul, Nat.zero_add, List.getElem?_append_left]
      · simpa using hc
      · have := (Array.getElem?_eq_some_iff.1 hc).1; simpa using this
    | succ i =>
      have ih := flatV_get (vs := vs) (i := i) (v := v) (fun y hy => hs y (by simp [hy])) (by simpa using h) hc
      rw [List.getElem?_append_right (by simp [h1, Nat.add_mul]; omega)]
      simp only [Array.length_toList, h1]
      rw [show (i + 1) * sz + j - sz = i * sz + j from by rw [Nat.add_mul]; omega]
      exact ih
theorem flatV_set {sz : Nat} : ∀ {vs : List Value} {i : Nat} {v : Value}, (∀ v ∈ vs, v.cells.size = sz) → v.cells.size = sz → i < vs.length →
    (flatV vs).take (i * sz) ++ v.cells.toList ++ (flatV vs).drop (i * sz + sz) = flatV (vs.set i v)
  | [], i, _, _, _, h => by simp at h
  | x :: vs, i, v, hs, hv, h => by
    have h1 := hs x (by simp)
    have hx : x.cells.toList.length = sz := by simpa using h1
    cases i with
    | zero =>
      simp only [flatV, List.flatMap_cons, List.set_cons_zero, Nat.zero_mul, List.take_zero, List.nil_append, Nat.zero_add]
      rw [List.drop_append_of_le_length (by omega), List.drop_of_length_le (by omega)]
      rfl
    | succ i =>
      have ih := flatV_set (vs := vs) (i := i) (v := v) (fun y hy => hs y (by simp [hy])) hv (by simpa using h)
      simp only [flatV, List.flatMap_cons, List.set_cons_succ] at *
      rw [← ih]
      have e1 : (i + 1) * sz = x.cells.toList.length + i * sz := by rw [Nat.add_mul]; omega
      have e2 : (i + 1) * sz + sz = x.cells.toList.length + (i * sz + sz) := by rw [Nat.add_mul]; omega
      rw [e1, List.take_append, Nat.add_sub_cancel_left, List.take_of_length_le (by omega)]
      rw [show x.cells.toList.length + i * sz + sz = x.cells.toList.length + (i * sz + sz) from by omega, List.drop_append, Nat.add_sub_cancel_left, List.drop_of_length_le (l := x.cells.toList) (by omega)]
      simp only [List.append_assoc, List.nil_append]

theorem flatV_zero {z : Value} {sz n : Nat} (hz : z.cells.size = sz) (hsz : 0 < sz) : ((Array.range (n * sz)).map (z.cells[· % z.cells.size]!)).toList = flatV (List.replicate n z) := by
  have hall : ∀ v ∈ List.replicate n z, v.cells.size = sz := fun v hv => by rw [(List.mem_replicate.1 hv).2]; exact hz
  apply List.ext_getElem?
  intro k
  by_cases hk : k < n * sz
  · have hd : k / sz < n := Nat.div_lt_of_lt_mul (by rw [Nat.mul_comm]; exact hk)
    have hm : k % sz < sz := Nat.mod_lt _ hsz
    have e1 : (List.replicate n z)[k / sz]? = some z := by simp [hd]
    have hlt : k % sz < z.cells.size := by omega
    have e2 : z.cells[k % sz]? = some z.cells[k % sz] := by simp [hlt]
    have := flatV_get (sz := sz) hall e1 e2
    rw [Nat.div_add_mod' k sz] at this
    rw [this]
    simp [hk, hz]
    simp [hlt]
  · have l1 : (flatV (List.replicate n z)).length ≤ k := by rw [flatV_len hall]; simp; omega
    rw [List.getElem?_eq_none l1, List.getElem?_eq_none (by simp; omega)]

def setV : List Value → List (Nat × Value) → List Value
  | vs, [] => vs
  | vs, (i, v) :: r => setV (vs.set i v) r

theorem setV_len : ∀ (ps : List (Nat × Value)) (vs : List Value), (setV vs ps).length = vs.length
  | [], _ => rfl
  | (i, v) :: r, vs => by simp [setV, setV_len r]

theorem fill_lit {sz : Nat} : ∀ (ps : List (Nat × Value)) (vs : List Value), (∀ v ∈ vs, v.cells.size = sz) → (∀ p ∈ ps, p.1 < vs.length ∧ p.2.cells.size = sz) →
    Instr.fill (fun i => some (i * sz, sz)) (flatV vs).toArray ps = some (flatV (setV vs ps)).toArray ∧ ∀ v ∈ setV vs ps, v.cells.size = sz
  | [], vs, h, _ => ⟨rfl, h⟩
  | (i, v) :: r, vs, h, hp => by
    obtain ⟨hi, hv⟩ := hp (i, v) (by simp)
    simp only at hi hv
    have h' : ∀ x ∈ vs.set i v, x.cells.size = sz := fun x hx => by
      rcases List.mem_or_eq_of_mem_set hx with hx | rfl
      · exact h x hx
      · exact hv
    have hlen := flatV_len h
    have hmul : i * sz + sz ≤ vs.length * sz := by rw [← Nat.succ_mul]; exact Nat.mul_le_mul_right sz hi
    have ih := fill_lit r (vs.set i v) h' (fun p hpp => by have := hp p (by simp [hpp]); simpa using this)
    refine ⟨?_, ih.2⟩
    simp only [Instr.fill]
    rw [if_neg (by simp [hv]; omega)]
    have key : (v.cells.zipIdx.foldl (fun cs (c, j) => cs.setIfInBounds (i * sz + j) c) (flatV vs).toArray) = (flatV (vs.set i v)).toArray := by
      apply Array.ext'
      rw [← Array.foldl_toList, Array.toList_zipIdx]
      have := foldl_put (i * sz) v.cells.toList 0 (flatV vs).toArray (by simp [hv]; omega)
      rw [this]
      simp only [Nat.add_zero, Array.length_toList, hv]
      exact flatV_set h hv hi
    rw [key]
    exact ih.1

theorem setAll_rep : ∀ (ps : List (Nat × D)) (qs : List (Nat × Value)) (xs : List D) (vs : List Value), RepL g xs vs → qs.length = ps.length → (∀ (i : Nat) (p : Nat × D) (q : Nat × Value), ps[i]? = some p → qs[i]? = some q → p.1 = q.1 ∧ Rep g p.2 q.2) →
    RepL g (setAll xs ps) (setV vs qs)
  | [], [], xs, vs, r, _, _ => r
  | (i, x) :: ps, (i', v) :: qs, xs, vs, r, hl, h => by
    obtain ⟨e, hr⟩ := h 0 (i, x) (i', v) rfl rfl
    simp only at e hr
    subst e
    exact setAll_rep ps qs _ _ (r.set i hr.norm) (by simpa using hl) fun j p q a b => h (j + 1) p q (by simpa using a) (by simpa using b)
  | [], _ :: _, _, _, _, hl, _ => by simp at hl
  | _ :: _, [], _, _, _, hl, _ => by simp at hl

theorem setAll_cl : ∀ (ps : List (Nat × D)) (xs : List D), D.clL 0 xs = true → (∀ p ∈ ps, (norm p.2).cl 0 = true) → D.clL 0 (setAll xs ps) = true
  | [], _, h, _ => h
  | (i, x) :: ps, xs, h, hp => by
    refine setAll_cl ps (xs.set i (norm x)) (clL_of fun d hd => ?_) fun p hpp => hp p (by simp [hpp])
    rcases List.mem_or_eq_of_mem_set hd with hd | rfl
    · obtain ⟨j, hj⟩ := List.mem_iff_getElem?.1 hd
      exact clL_get h hj
    · exact hp (i, x) (by simp)

theorem zval_cl {z : Value} (h : constV z = true) : (norm (zval z)).cl 0 = true := by
  have sc : ∀ x, scalarV x = true → (normC (.v x)).cl 0 = true := fun x hx => by
    cases x <;> first | rfl | (simp [scalarV] at hx)
  cases z with
  | agg cs =>
    simp only [constV, List.all_eq_true] at h
    simp only [zval, norm, D.cl]
    exact clL_of fun d hd => by
      obtain ⟨d1, h1, rfl⟩ := List.mem_map.1 hd
      obtain ⟨x, hx, rfl⟩ := List.mem_map.1 h1
      exact sc x (h x hx)
  | _ => simp only [constV] at h; exact sc _ h

theorem cParts2_spec {e : Env} {a : Act} (he : EnvRep g e a.tmps) : ∀ {parts : List (Nat × Operand)} {ps : List (Nat × Opd)}, cParts2 parts = some ps →
    (parts.map fun (i, x) => (i, a.eval x)).length = (ps.map fun (i, x) => (i, x.ev e)).length ∧
    ∀ (i : Nat) (p : Nat × D) (q : Nat × Value), (ps.map fun (i, x) => (i, x.ev e))[i]? = some p → (parts.map fun (i, x) => (i, a.eval x))[i]? = some q → p.1 = q.1 ∧ Rep g p.2 q.2
  | [], ps, h => by cases h; exact ⟨rfl, fun i p q a => by simp at a⟩
  | (i, x) :: r, ps, h => by
    simp only [cParts2] at h
    split at h
    · rename_i x' r' h1 h2
      cases h
      obtain ⟨l, ih⟩ := cParts2_spec he h2
      refine ⟨by simpa using l, fun j p q a b => ?_⟩
      cases j with
      | zero => simp at a b; subst a; subst b; exact ⟨rfl, cOpd_rep he h1⟩
      | succ j => exact ih j p q (by simpa using a) (by simpa using b)
    · cases h

theorem does_lit (hi : Inv g B w0 s w) {e : Env} {a : Act} (he : EnvRep g e a.tmps) {t el : TypeId} {sz n : Nat} {zero : Value} {parts : Array (Nat × Operand)} {ps : List (Nat × Opd)} {d : D}
    (hu : P.underlying t = some (.slice el)) (hsz : tSize P el = some sz) (hz : tZero P el = some zero) (hzs : zero.cells.size = sz) (h0 : sz ≠ 0) (hsm : n * sz ≤ 16777216) (hp : cParts2 parts.toList = some ps)
    {call : D → List D → St → Option (D × St)} {pure : D → Bool} (h : evQ e s call pure (.lit sz n zero ps) = some d) :
    Does P (Instr.buildSlice t n (parts.map fun (i, x) => (i, a.eval x))) g B w0 s s w d := by
  simp only [evQ] at h
  split at h
  · rename_i hall
    obtain ⟨hlen, hrep⟩ := cParts2_spec he hp
    have hcz := (tZero_spec hz).1
    have qs_ok : ∀ q ∈ (parts.toList.map fun (i, x) => (i, a.eval x)), q.1 < (List.replicate n zero).length ∧ q.2.cells.size = sz := fun q hq => by
      obtain ⟨j, hj⟩ := List.mem_iff_getElem?.1 hq
      have hlt : j < (ps.map fun (i, x) => (i, x.ev e)).length := by rw [← hlen]; exact (List.getElem?_eq_some_iff.1 hj).1
      obtain ⟨e1, e2⟩ := hrep j _ q (List.getElem?_eq_getElem hlt) hj
      have hm : ps[j]'(by simpa using hlt) ∈ ps := List.getElem_mem _
      have hc := List.all_eq_true.1 hall _ hm
      simp only [Bool.and_eq_true, decide_eq_true_eq, beq_iff_eq] at hc
      simp only [List.getElem_map] at e1 e2
      refine ⟨by simp; omega, ?_⟩
      have := (e2.cells hc.2).1
      simp at this
      omega
    obtain ⟨f1, f2⟩ := fill_lit (sz := sz) (parts.toList.map fun (i, x) => (i, a.eval x)) (List.replicate n zero) (fun v hv => by rw [(List.mem_replicate.1 hv).2]; exact hzs) qs_ok
    generalize hvs : setV (List.replicate n zero) (parts.toList.map fun (i, x) => (i, a.eval x)) = vs at f1 f2
    have hvl : vs.length = n := by rw [← hvs, setV_len]; simp
    have hrl : RepL g (setAll (List.replicate n (norm (zval zero))) (ps.map fun (i, x) => (i, x.ev e))) vs := by
      rw [← hvs]
      refine setAll_rep _ _ _ _ ⟨by simp, fun i d v a b => ?_⟩ hlen hrep
      have := (List.mem_replicate.1 (List.mem_of_getElem? a)).2
      have h2 := (List.mem_replicate.1 (List.mem_of_getElem? b)).2
      subst this; subst h2
      exact (Rep.zval hcz).norm
    have hrun : (Instr.buildSlice t n (parts.map fun (i, x) => (i, a.eval x))).run P w = .ok (.slice (some ⟨w.heap.size, 0, none⟩) n n) (w.alloc (.cells (flatV vs).toArray el)) := by
      by_cases hn : n * sz = 0
      · have hn0 : n = 0 := by
          rcases Nat.mul_eq_zero.1 hn with h | h
          · exact h
          · exact absurd h h0
        subst hn0
        have hpn : parts.toList = [] := by
          cases hq : parts.toList with
          | nil => rfl
          | cons q r =>
            have := (qs_ok (q.1, a.eval q.2) (by rw [hq]; simp)).1
            simp at this
        have hvn : vs = [] := List.eq_nil_of_length_eq_zero hvl
        have hpa : parts = #[] := by simpa using hpn
        subst hvn; subst hpa
        simp only [Instr.buildSlice, Sem.run_bind, run_under hu, Result.andThen_ok, run_size hsz, Nat.zero_mul, if_true]
        simp [newRow, Instr.fill, flatV, Array.range_zero']
      · have hfill : Instr.fill (fun i => some (i * sz, sz)) ((Array.range (n * sz)).map (zero.cells[· % zero.cells.size]!)) (parts.toList.map fun (i, x) => (i, a.eval x)) = some (flatV vs).toArray := by
          rw [← f1]
          congr 1
          apply Array.ext'
          rw [flatV_zero hzs (by omega)]
        have hsm' : ¬ n * sz > 2 ^ 24 := by omega
        simp only [Instr.buildSlice, Sem.run_bind, run_under hu, Result.andThen_ok, run_size hsz, Sem.run_ite, hsm', hn, if_false, run_zero hz, Sem.run_pure, Array.toList_map, hfill, newRow, run_newObj]
        rfl
    have hinv := hi.newImm (flatV vs).toArray el (0, 0) (flatV vs).length (w.alloc (.cells (flatV vs).toArray el)) (heap_alloc_new w _) ((Below.refl _ _).alloc (Nat.le_refl _) _)
    have hle : g.le (g.freeze w.heap.size fun o => if o < (flatV vs).length then (flatV vs).toArray[o]? else none) := G.le_freeze
    have hrow : Row (g.freeze w.heap.size fun o => if o < (flatV vs).length then (flatV vs).toArray[o]? else none) w.heap.size 0 sz vs := ⟨by omega, fun i v hv => by
      refine ⟨f2 v (List.mem_of_getElem? hv), fun j c k => ?_⟩
      have hnone : ∀ o, g.imm w.heap.size o = none := fun o => by
        cases hh : g.imm w.heap.size o with
        | none => rfl
        | some u => exact absurd (hi.imm_lt hh) (Nat.lt_irrefl _)
      have hg := flatV_get f2 hv k
      have hlt := (List.getElem?_eq_some_iff.1 hg).1
      simp only [G.freeze, Nat.zero_add, hnone, if_true, hlt]
      simpa using hg⟩
    have hlx : (setAll (List.replicate n (norm (zval zero))) (ps.map fun (i, x) => (i, x.ev e))).length = n := by rw [← hrl.1, hvl]
    split at h
    · rename_i hcl
      cases h
      refine ⟨_, _, _, hrun, ⟨hle, fun i _ => rfl⟩, hinv, ?_⟩
      have hc : D.clL 0 (setAll (List.replicate n (norm (zval zero))) (ps.map fun (i, x) => (i, x.ev e))) = true := by
        refine setAll_cl _ _ (clL_of fun d hd => by rw [(List.mem_replicate.1 hd).2]; exact zval_cl hcz) fun p hpp => ?_
        obtain ⟨q, hq, rfl⟩ := List.mem_map.1 hpp
        exact List.all_eq_true.1 hcl q hq
      have := Rep.list (tk := .full) w.heap.size 0 n sz vs hrl.1 (by omega) (hrl.mono hle).2 hc hrow hlx.symm
      rw [hlx] at this
      exact this
    · cases h
      refine ⟨_, _, _, hrun, ⟨hle, fun i _ => rfl⟩, hinv, ?_⟩
      have := Rep.rlist w.heap.size 0 n sz vs hrl.1 (by omega) (hrl.mono hle).2 hrow
      rw [hlx] at this
      exact this
  · cases h
end
end Go.Fk

/- Soundness of the operations, tenth part: all quiet operations together. -/
namespace Go.Fk
open Go.RowKit (Below)
section
variable {P : Program} {g : G} {B : Nat} {w0 : Base} {s : St} {w : World}

/-- What an operation comes to, for the abstract state. -/
def DoesN (P : Program) (m : Sem Next) (g : G) (B : Nat) (w0 : Base) (s s' : St) (w : World) (d : D) : Prop :=
  ∃ v w' g', (m.run P w = .ok (.value v) w' ∨ (m.run P w = .ok .skip w' ∧ v = undef)) ∧ Ext s.hn g g' ∧ Inv g' B w0 s' w' ∧ Rep g' d v

theorem Does.next {m : Sem Value} {s' : St} {d : D} (h : Does P m g B w0 s s' w d) : DoesN P (do pure (.value (← m))) g B w0 s s' w d := by
  obtain ⟨v, w', g', h1, h2, h3, h4⟩ := h
  exact ⟨v, w', g', .inl (by simp [h1]), h2, h3, h4⟩

theorem nilCheck_run {ρ : Operand → Value} {x : Operand} {dst : Option Tmp} {ty : TypeId} {pos : String} {after : Array Edge} {guard : Option (Nat × Bool)} {d d' : D} {v : Value} (h : nilCheckQ d = some d') (hv : ρ x = v) (r : Rep g d v) :
    d' = d ∧ (execOp ρ ⟨dst, .nilCheck x, ty, pos, after, guard⟩).run P w = .ok (.value v) w := by
  cases r with
  | ptr b k => cases h; exact ⟨rfl, by simp [execOp, hv]⟩
  | lptr b o sz vs hl hx hr => cases h; exact ⟨rfl, by simp [execOp, hv]⟩
  | iface v k => cases h; exact ⟨rfl, by simp [execOp, hv]⟩
  | @func fn as cs us vs hl hx kl ky => cases fn <;> first | (cases h; exact ⟨rfl, by simp [execOp, hv]⟩) | cases h
  | _ => cases h

theorem evQ_sound (hi : Inv g B w0 s w) {e : Env} {a : Act} (he : EnvRep g e a.tmps) {mt : Bool} {o : Oper} {op : IOp} {d : D} {call : D → List D → St → Option (D × St)} {pure : D → Bool}
    (hop : cOp P mt o.op = some op) (hnc : ∀ f args, op ≠ .call f args) (h : evQ e s call pure op = some d) : DoesN P (execOp a.eval o) g B w0 s s w d := by
  obtain ⟨dst, o, ty, pos, after, guard⟩ := o
  simp only at hop
  cases o
  case move x =>
    simp only [cOp, Option.map_eq_some_iff] at hop
    obtain ⟨x', hx, rfl⟩ := hop
    cases h
    exact ⟨a.eval x, w, g, .inl rfl, Ext.refl _ _, hi, cOpd_rep he hx⟩
  case assign x =>
    simp only [cOp, Option.map_eq_some_iff] at hop
    obtain ⟨x', hx, rfl⟩ := hop
    cases h
    exact ⟨a.eval x, w, g, .inl rfl, Ext.refl _ _, hi, cOpd_rep he hx⟩
  case pick c x y =>
    simp only [cOp] at hop
    split at hop
    · rename_i c' x' y' h1 h2 h3
      cases hop
      simp only [evQ] at h
      split at h
      · rename_i t hc
        cases h
        have r := cOpd_rep he h1
        rw [hc] at r
        have hb : a.eval c = .bool t := by generalize a.eval c = vc at r; cases r; rfl
        refine ⟨if t then a.eval x else a.eval y, w, g, .inl ?_, Ext.refl _ _, hi, ?_⟩
        · simp [execOp, hb, asBool]
        · cases t
          · exact cOpd_rep he h3
          · exact cOpd_rep he h2
      · cases h
    · cases hop
  case build t parts =>
    have : ∃ zs ps, op = .build zs ps := by
      simp only [cOp] at hop
      split at hop
      · split at hop
        · cases hop
        · simp only [Option.map_eq_some_iff] at hop; obtain ⟨_, _, rfl⟩ := hop; exact ⟨_, _, rfl⟩
      · split at hop
        · simp only [Option.map_eq_some_iff] at hop; obtain ⟨_, _, rfl⟩ := hop; exact ⟨_, _, rfl⟩
        · cases hop
      · cases hop
    exact (does_build hi he hop h).next
  case buildSlice t n parts =>
    simp only [cOp] at hop
    split at hop
    · rename_i el hu
      split at hop
      · rename_i sz z ps h1 h2 h3
        split at hop
        · cases hop
        · rename_i hc
          split at hop
          · rename_i hsm
            cases hop
            exact (does_lit hi he hu h1 h2 (by rcases Nat.decEq z.cells.size sz with k | k <;> first | exact k | exact absurd (.inr k) hc) (fun k => hc (.inl k)) hsm h3 h).next
          · cases hop
      · cases hop
    · cases hop
  case load t x =>
    simp only [cOp] at hop
    split at hop
    · rename_i ag n x' h1 h2 h3
      cases hop
      exact (does_load hi h1 h2 (cOpd_rep he h3) h).next
    · cases hop
  case nilCheck x =>
    simp only [cOp, Option.map_eq_some_iff] at hop
    obtain ⟨x', hx, rfl⟩ := hop
    obtain ⟨rfl, hrun⟩ := nilCheck_run (P := P) (w := w) h rfl (cOpd_rep he hx)
    exact ⟨_, w, g, .inl hrun, Ext.refl _ _, hi, cOpd_rep he hx⟩
  case binOp bop t x y yt =>
    simp only [cOp] at hop
    split at hop
    · rename_i x' y' hx hy
      have rx := cOpd_rep he hx
      have ry := cOpd_rep he hy
      have scal : ∀ k, op = .bin bop k x' y' → k = .scalar → DoesN P (execOp a.eval ⟨dst, .binOp bop t x y yt, ty, pos, after, guard⟩) g B w0 s s w d := fun k e1 e2 => by
        subst e1; subst e2
        simp only [evQ, binQ] at h
        split at h
        · rename_i va vb ha hb
          simp only [Option.map_eq_some_iff] at h
          obtain ⟨r, hr, rfl⟩ := h
          rw [ha] at rx; rw [hb] at ry
          generalize hva : a.eval x = u at rx
          generalize hvb : a.eval y = v at ry
          cases rx; cases ry
          have := run_binV (P := P) (w := w) (t := t) (x := x) (y := y) hr
          exact ⟨r, w, g, .inl (by simp only [execOp, hva, hvb, Sem.run_bind, this]; rfl), Ext.refl _ _, hi, .v _⟩
        · cases h
      have eqs : ∀ k, eqk P t = some k → op = .bin bop k x' y' → (bop = .eql ∨ bop = .neq) → (k.isIf = true → (∃ v, x = .const v) ∨ ∃ v, y = .const v) →
          DoesN P (execOp a.eval ⟨dst, .binOp bop t x y yt, ty, pos, after, guard⟩) g B w0 s s w d := fun k hk e1 hb hif => by
        by_cases hs : k = .scalar
        · exact scal k e1 hs
        · subst e1
          have h' : ∃ b, eqD k (x'.ev e) (y'.ev e) = some b ∧ d = .v (.bool (if bop = .eql then b else !b)) := by
            simp only [evQ, binQ] at h
            rcases hb with rfl | rfl
            · cases k <;> first
                | exact absurd rfl hs
                | (simp only [Option.map_eq_some_iff] at h; obtain ⟨b, hb, rfl⟩ := h; exact ⟨b, hb, rfl⟩)
            · cases k <;> first
                | exact absurd rfl hs
                | (simp only [Option.map_eq_some_iff] at h; obtain ⟨b, hb, rfl⟩ := h; exact ⟨b, hb, rfl⟩)
          obtain ⟨b, hb', rfl⟩ := h'
          have := run_eqD (P := P) (w := w) (xo := x) (yo := y) hk hb hif rx ry hb'
          exact ⟨_, w, g, .inl (by simp only [execOp, Sem.run_bind, this]; rfl), Ext.refl _ _, hi, .v _⟩
      have isKs : ∀ (q : Operand) (q' : Opd), cOpd q = some q' → isK q' = true → ∃ v, q = .const v := fun q q' hq hk => by
        cases q <;> simp only [cOpd] at hq <;> first | (cases hq; cases hk; done) | exact ⟨_, rfl⟩ | (cases hq; done) | skip
      have two : ∀ (hb : bop = .eql ∨ bop = .neq), (match eqk P t with
        | some (.ref .iface) => if isK x' || isK y' then some (IOp.bin bop (.ref .iface) x' y') else none
        | some k => some (.bin bop k x' y')
        | none => none) = some op → DoesN P (execOp a.eval ⟨dst, .binOp bop t x y yt, ty, pos, after, guard⟩) g B w0 s s w d := fun hb hop => by
        split at hop
        · rename_i hk
          split at hop
          · rename_i hkk
            cases hop
            refine eqs _ hk rfl hb fun _ => ?_
            simp only [Bool.or_eq_true] at hkk
            rcases hkk with hkk | hkk
            · exact .inl (isKs _ _ hx hkk)
            · exact .inr (isKs _ _ hy hkk)
          · cases hop
        · rename_i k hne hk
          cases hop
          refine eqs _ hk rfl hb fun hif => ?_
          exfalso
          cases k with
          | ref r => cases r <;> first | (cases hif; done) | exact hne rfl
          | _ => cases hif
        · cases hop
      cases bop <;> first
        | (cases hop; exact scal _ rfl rfl)
        | exact two (.inl rfl) hop
        | exact two (.inr rfl) hop
    · cases hop
  case unOp uop t x =>
    simp only [cOp, Option.map_eq_some_iff] at hop
    obtain ⟨x', hx, rfl⟩ := hop
    simp only [evQ] at h
    split at h
    · rename_i va ha
      simp only [Option.map_eq_some_iff] at h
      obtain ⟨r, hr, rfl⟩ := h
      have rx := cOpd_rep he hx
      rw [ha] at rx
      generalize hva : a.eval x = u at rx
      cases rx
      exact ⟨r, w, g, .inl (by simp [execOp, hva, run_unV hr]), Ext.refl _ _, hi, .v _⟩
    · cases h
  case convert src dst' x =>
    simp only [cOp] at hop
    split at hop
    · rename_i h1 h2 h3
      cases hop
      simp only [evQ] at h
      split at h
      · rename_i k' n ha
        cases h
        have rx := cOpd_rep he h3
        rw [ha] at rx
        generalize hva : a.eval x = u at rx
        cases rx
        exact ⟨_, w, g, .inl (by simp [execOp, hva, convert, run_under h1, run_under h2, Conv.intToInt]), Ext.refl _ _, hi, .v _⟩
      · cases h
    · rename_i h1 h2 h3
      cases hop
      simp only [evQ] at h
      split at h
      · rename_i b ha
        cases h
        have rx := cOpd_rep he h3
        rw [ha] at rx
        generalize hva : a.eval x = u at rx
        cases rx
        exact ⟨_, w, g, .inl (by simp [execOp, hva, convert, run_under h1, run_under h2]), Ext.refl _ _, hi, .v _⟩
      · cases h
    · rename_i h1 h2 h3
      cases hop
      simp only [evQ] at h
      split at h
      · rename_i k n ha
        cases h
        have rx := cOpd_rep he h3
        rw [ha] at rx
        generalize hva : a.eval x = u at rx
        cases rx
        exact ⟨_, w, g, .inl (by simp [execOp, hva, convert, run_under h1, run_under h2, Conv.intToString]), Ext.refl _ _, hi, .v _⟩
      · cases h
    · rename_i el x' h1 h2 h3
      split at hop
      · rename_i h4
        cases hop
        simp only [evQ] at h
        split at h
        · rename_i b ha
          split at h
          · cases h
            have rx := cOpd_rep he h3
            rw [ha] at rx
            generalize hva : a.eval x = u at rx
            cases rx
            have := (does_convBytes hi h1 h2 h4 b).next
            simpa [execOp, hva] using this
          · cases h
        · cases h
      · rename_i h4
        cases hop
        simp only [evQ] at h
        split at h
        · rename_i b ha
          split at h
          · cases h
            have rx := cOpd_rep he h3
            rw [ha] at rx
            generalize hva : a.eval x = u at rx
            cases rx
            have := (does_convRunes hi h1 h2 h4 b).next
            simpa [execOp, hva] using this
          · cases h
        · cases h
      · cases hop
    · rename_i el x' h1 h2 h3
      split at hop
      · rename_i h4
        cases hop
        exact (does_convStr hi (runes := false) h1 h2 h4 (cOpd_rep he h3) h).next
      · rename_i h4
        cases hop
        exact (does_convStr hi (runes := true) h1 h2 h4 (cOpd_rep he h3) h).next
      · cases hop
    · cases hop
  case makeInterface t x =>
    simp only [cOp] at hop
    split at hop
    · cases hop
    · rename_i u hne hu
      simp only [Option.map_eq_some_iff] at hop
      obtain ⟨x', hx, rfl⟩ := hop
      cases h
      refine ⟨.iface t (a.eval x), w, g, .inl ?_, Ext.refl _ _, hi, .iface _ (cOpd_rep he hx).norm⟩
      simp only [execOp, Instr.makeInterface, Sem.run_bind, run_under hu, Result.andThen_ok]
      cases u <;> first | rfl | exact absurd rfl (hne _)
    · cases hop
  case makeFunc fn first cap =>
    simp only [cOp] at hop
    split at hop
    · rename_i as cs h1 h2
      cases hop
      cases h
      have r1 := cOpds_rep he h1
      have r2 := cOpds_rep he h2
      have := Rep.func (fn := fn) (first.toList.map a.eval) (cap.toList.map a.eval) r1.1 r1.2 r2.1 r2.2
      refine ⟨.func fn (first.map a.eval) (cap.map a.eval), w, g, .inl rfl, Ext.refl _ _, hi, ?_⟩
      have e1 : first.map a.eval = (first.toList.map a.eval).toArray := by apply Array.ext'; simp
      have e2 : cap.map a.eval = (cap.toList.map a.eval).toArray := by apply Array.ext'; simp
      rw [e1, e2]
      exact this
    · cases hop
  case slice t x lo hh mx =>
    have fin : ∀ (kind n sz : Nat) (x' : Opd) (lo' hh' mx' : Option Opd), cOpd x = some x' → cOpt lo = some lo' → cOpt hh = some hh' → cOpt mx = some mx' → op = .slice kind n sz x' lo' hh' mx' →
        ¬ (mx'.isSome && hh'.isNone) = true →
        ((P.underlying t = some .string ∧ kind = 0) ∨ (∃ el, P.underlying t = some (.slice el) ∧ tSize P el = some sz ∧ kind = 2) ∨ ∃ el, P.underlying t = some (.array n el) ∧ tSize P el = some sz ∧ kind = 1) →
        DoesN P (execOp a.eval ⟨dst, .slice t x lo hh mx, ty, pos, after, guard⟩) g B w0 s s w d := fun kind n sz x' lo' hh' mx' h1 h2 h3 h4 e hm ht => by
      subst e
      exact (does_slice hi he h2 h3 h4 (cOpd_rep he h1) (fun k => by cases hh' <;> simp_all) ht h).next
    simp only [cOp] at hop
    split at hop
    · rename_i x' lo' hh' mx' h0 h1 h2 h3 h4
      split at hop
      · cases hop
      · rename_i hm; cases hop; exact fin _ _ _ _ _ _ _ h1 h2 h3 h4 rfl hm (.inl ⟨h0, rfl⟩)
    · rename_i el x' lo' hh' mx' h0 h1 h2 h3 h4
      split at hop
      · cases hop
      · rename_i hm
        simp only [Option.map_eq_some_iff] at hop
        obtain ⟨sz, hsz, rfl⟩ := hop
        exact fin _ _ _ _ _ _ _ h1 h2 h3 h4 rfl hm (.inr (.inl ⟨el, h0, hsz, rfl⟩))
    · rename_i n el x' lo' hh' mx' h0 h1 h2 h3 h4
      split at hop
      · cases hop
      · rename_i hm
        simp only [Option.map_eq_some_iff] at hop
        obtain ⟨sz, hsz, rfl⟩ := hop
        exact fin _ _ _ _ _ _ _ h1 h2 h3 h4 rfl hm (.inr (.inr ⟨el, h0, hsz, rfl⟩))
    · cases hop
  case fieldAddr t x i =>
    simp only [cOp] at hop
    split at hop
    · rename_i fs hu
      split at hop
      · rename_i f x' hf hx
        split at hop
        · cases hop
        · rename_i hn0
          split at hop
          · rename_i n hn
            cases hop
            exact (does_faddr hi hu hf hn (fun k => hn0 (by rw [hn, k])) (cOpd_rep he hx) h).next
          · cases hop
      · cases hop
    · cases hop
  case field t x i =>
    simp only [cOp] at hop
    split at hop
    · rename_i fs hu
      split at hop
      · rename_i f x' hf hx
        split at hop
        · rename_i ag n h1 h2
          cases hop
          exact (does_field hi hu hf h1 h2 (cOpd_rep he hx) h).next
        · cases hop
      · cases hop
    · cases hop
  case indexAddr t x i =>
    simp only [cOp] at hop
    split at hop
    · rename_i el x' i' hu h1 h2
      split at hop
      · rename_i sz hsz
        split at hop
        · cases hop
        · cases hop
          exact (does_iaddr hi (cOpd_rep he h1) (cOpd_rep he h2) (.inl ⟨el, hu, hsz, rfl⟩) h).next
      · cases hop
    · rename_i n el x' i' hu h1 h2
      split at hop
      · rename_i sz hsz
        split at hop
        · cases hop
        · cases hop
          exact (does_iaddr hi (cOpd_rep he h1) (cOpd_rep he h2) (.inr ⟨n, el, hu, hsz, rfl⟩) h).next
      · cases hop
    · cases hop
  case index t x i =>
    simp only [cOp] at hop
    split at hop
    · rename_i x' i' hu h1 h2
      cases hop
      exact (does_index hi (cOpd_rep he h1) (cOpd_rep he h2) (.inl ⟨hu, rfl⟩) h).next
    · rename_i n el x' i' hu h1 h2
      split at hop
      · rename_i ag sz h3 h4
        cases hop
        exact (does_index hi (cOpd_rep he h1) (cOpd_rep he h2) (.inr ⟨n, el, ag, sz, hu, h3, h4, rfl⟩) h).next
      · cases hop
    · cases hop
  case lookup t m k ok =>
    simp only [cOp] at hop
    split at hop
    · rename_i kt el hu
      split at hop
      · rename_i kk z m' k' h1 h2 h3 h4
        cases hop
        exact (does_lookup hi hu h1 h2 (cOpd_rep he h3) (cOpd_rep he h4).norm h).next
      · cases hop
    · cases hop
  case typeAssert x xt t ok =>
    simp only [cOp] at hop
    split at hop
    · cases hop
    · rename_i u hne hu
      split at hop
      · rename_i z x' h1 h2
        cases hop
        exact (does_tassert hi hu (fun ms e => hne ms e) h1 (cOpd_rep he h2) h).next
      · cases hop
    · cases hop
  case extract x i =>
    simp only [cOp, Option.map_eq_some_iff] at hop
    obtain ⟨x', hx, rfl⟩ := hop
    simp only [evQ] at h
    split at h
    · rename_i ds hds
      have r := cOpd_rep he hx
      rw [hds] at r
      generalize hvx : a.eval x = vx at r
      cases r with
      | tup vs hl hx =>
        obtain ⟨v, hv, hr⟩ := RepL.get (g := g) ⟨hl, hx⟩ h
        exact ⟨v, w, g, .inl (by simp [execOp, hvx, Instr.extract, hv]), Ext.refl _ _, hi, hr⟩
    · cases h
  case call c =>
    obtain ⟨callee, args, ats⟩ := c
    simp only [cOp, cCall] at hop
    cases callee with
    | value f =>
      simp only at hop
      split at hop
      · cases hop; exact absurd rfl (hnc _ _)
      · cases hop
    | invoke r m => cases hop
    | builtin b =>
      simp only at hop
      split at hop
      · cases hop
      · rename_i args' hargs
        have hr := cOpds_rep he hargs
        split at hop
        · rename_i x t hats
          have hargs1 : ∃ y, args.toList = [y] ∧ cOpd y = some x := by
            cases hl : args.toList with
            | nil => rw [hl] at hargs; cases hargs
            | cons y r =>
              rw [hl] at hargs
              simp only [cOpds] at hargs
              split at hargs
              · rename_i h1 h2
                cases hargs
                cases r with
                | nil => exact ⟨y, rfl, h1⟩
                | cons z r => simp only [cOpds] at h2; split at h2 <;> cases h2
              · cases hargs
          obtain ⟨y, hy, hxy⟩ := hargs1
          have ea : args = #[y] := by apply Array.ext'; simpa using hy
          have et : ats = #[t] := by apply Array.ext'; simpa using hats
          subst ea; subst et
          have run : ∀ kind, lenQ s kind (x.ev e) = some d → ((P.underlying t = some .string ∧ kind = 0) ∨ (∃ e, P.underlying t = some (.slice e) ∧ kind = 1) ∨ ∃ k e, P.underlying t = some (.map k e) ∧ kind = 2) →
              DoesN P (execOp a.eval ⟨dst, .call ⟨.builtin .len, #[y], #[t]⟩, ty, pos, after, guard⟩) g B w0 s s w d := fun kind hl ht => by
            have := (does_len (ty := ty) hi (cOpd_rep he hxy) hl ht).next
            simpa [execOp, resolve, invoke, builtin] using this
          split at hop
          · rename_i hu; cases hop; exact run 0 h (.inl ⟨hu, rfl⟩)
          · rename_i el hu; cases hop; exact run 1 h (.inr (.inl ⟨el, hu, rfl⟩))
          · rename_i k el hu; cases hop; exact run 2 h (.inr (.inr ⟨k, el, hu, rfl⟩))
          · rename_i n el hu
            cases hop
            cases h
            refine ⟨goInt n, w, g, .inl ?_, Ext.refl _ _, hi, .v _⟩
            simp [execOp, resolve, invoke, builtin, Builtin.len_, run_under hu]
          · cases hop
        · -- append
          split at hop
          · split at hop
            · split at hop
              · cases hop
              · split at hop
                · cases hop; simp [evQ] at h
                · cases hop; simp [evQ] at h
            · cases hop
          · cases hop
        · split at hop
          · split at hop
            · split at hop
              · cases hop
              · cases hop; simp [evQ] at h
            · cases hop
          · cases hop
        · split at hop
          · simp only [Option.map_eq_some_iff] at hop; obtain ⟨kk, _, rfl⟩ := hop; simp [evQ] at h
          · cases hop
        · split at hop
          · split at hop
            · split at hop
              · cases hop
              · cases hop; simp [evQ] at h
            · cases hop
          · cases hop
        · cases hop
          simp only [evQ] at h
          split at h
          · rename_i d0 ds hl
            rw [hl] at hr
            obtain ⟨v0, vs, e1, r1, r2⟩ := hr.cons_inv
            have := (does_minmax (P := P) hi false ds vs d0 d v0 r1 r2 h).next
            have e2 : (args.map a.eval).toList = v0 :: vs := by simpa using e1
            simpa [execOp, resolve, invoke, builtin, Builtin.min_, e1] using this
          · cases h
        · cases hop
          simp only [evQ] at h
          split at h
          · rename_i d0 ds hl
            rw [hl] at hr
            obtain ⟨v0, vs, e1, r1, r2⟩ := hr.cons_inv
            have := (does_minmax (P := P) hi true ds vs d0 d v0 r1 r2 h).next
            have e2 : (args.map a.eval).toList = v0 :: vs := by simpa using e1
            simpa [execOp, resolve, invoke, builtin, Builtin.max_, e1] using this
          · cases h
        · cases hop
  case alloc t =>
    simp only [cOp, Option.map_eq_some_iff] at hop
    obtain ⟨z, _, rfl⟩ := hop
    simp [evQ] at h
  case box t x =>
    simp only [cOp, Option.map_eq_some_iff] at hop
    obtain ⟨z, _, rfl⟩ := hop
    simp [evQ] at h
  case store t x y =>
    simp only [cOp] at hop
    split at hop <;> cases hop
    simp [evQ] at h
  case makeMap t r =>
    simp only [cOp] at hop
    split at hop
    · split at hop <;> cases hop <;> simp [evQ] at h
    · cases hop
  case makeSlice t l c =>
    simp only [cOp] at hop
    split at hop
    · split at hop
      · split at hop
        · cases hop
        · cases hop; simp [evQ] at h
      · cases hop
    · cases hop
  case mapUpdate t m k x =>
    simp only [cOp] at hop
    split at hop
    · split at hop <;> cases hop
      simp [evQ] at h
    · cases hop
  case range t x =>
    simp only [cOp] at hop
    split at hop
    · simp only [Option.map_eq_some_iff] at hop; obtain ⟨z, _, rfl⟩ := hop; simp [evQ] at h
    · cases hop
  case next x b =>
    simp only [cOp] at hop
    split at hop
    · simp only [Option.map_eq_some_iff] at hop; obtain ⟨z, _, rfl⟩ := hop; simp [evQ] at h
    · cases hop
  case defer c =>
    obtain ⟨callee, args, ats⟩ := c
    simp only [cOp] at hop
    cases callee <;> simp only at hop
    · split at hop <;> cases hop
      simp [evQ] at h
    · cases hop
    · cases hop
  all_goals (simp only [cOp] at hop; cases hop)

end
end Go.Fk

/- Soundness of the operations, eleventh part: what turns the state (append aside). -/
namespace Go.Fk
open Go.RowKit (Below)
section
variable {P : Program} {g : G} {B : Nat} {w0 : Base} {s : St} {w : World}

theorem wr_set {s' : St} {id : Nat} {new : List D} {o : O} (h : s.wr id new o = some s') : s' = s.set id o := by
  unfold St.wr at h
  split at h
  · split at h
    · cases h; rfl
    · split at h
      · cases h; rfl
      · cases h
  · cases h

/-- Cells of an object, stored into. -/
theorem turnCells (hi : Inv g B w0 s w) {id b off : Nat} {ds ds' new : List D} {us : List Value} (hb : g.blk id = some b) (hg : s.get id = some (.cells ds))
    (hp : put ds new off = some ds') (hr : RepL g new us) (hs : new.all (·.single) = true) :
    ∃ w', (storeCells ⟨b, off, none⟩ us).run P w = .ok () w' ∧ Inv g B w0 (s.set id (.cells ds')) w' := by
  obtain ⟨cs, el, e1, e2, e3⟩ := hi.obj id _ b hg hb
  obtain ⟨hle, r⟩ := put_rep e2 hr hp
  have hst := run_storeCells_at P b off el us 0 cs w e1 (by simpa using hle) (fun v hv => List.all_eq_true.1 (hr.oneCell hs) v hv)
  have hB : B ≤ b := (hi.dom id b hb).2.1
  refine ⟨_, hst, hi.turn hb _ _ ⟨rfl, rfl, rfl, by simp [World.setRow], fun k hk => setRow_other _ _ _ _ (by omega)⟩ (fun k hk => setRow_other _ _ _ _ hk) ⟨_, el, setRow_heap w b cs _ el _ e1, ?_, put_single hp e3 hs⟩⟩
  simpa using r

/-- What an operation without a value comes to. -/
def DoesU (P : Program) (m : Sem Unit) (g : G) (B : Nat) (w0 : Base) (s' : St) (w : World) : Prop := ∃ w', m.run P w = .ok () w' ∧ Inv g B w0 s' w'

theorem DoesU.next {m : Sem Unit} {s' : St} (h : DoesU P m g B w0 s' w) : DoesN P (do m; pure .skip) g B w0 s s' w (.v undef) := by
  obtain ⟨w', h1, h2⟩ := h
  exact ⟨undef, w', g, .inr ⟨by simp [h1], rfl⟩, Ext.refl _ _, h2, .v _⟩

theorem Inv.push_ext (hi : Inv g B w0 s w) : Ext s.hn g (g.bind s.hn w.heap.size) :=
  ⟨G.le_bind (hi.blk_ge (Nat.le_refl _)), fun i h => by simp only [G.bind]; rw [if_neg (by omega)]⟩

theorem bind_ptr {n b off : Nat} : Rep (g.bind n b) (.ptr n off) (.pointer (some ⟨b, off, none⟩)) := .ptr b (by simp [G.bind])

theorem alloc_last {o : Obj} : (w.alloc o).heap[w.heap.size]? = some o := heap_alloc_last w o

/-- A new object of cells. -/
theorem pushCells (hi : Inv g B w0 s w) {ds : List D} {cs : Array Value} (e : TypeId) (hr : RepL g ds cs.toList) (hs : ds.all (·.single) = true) :
    Inv (g.bind s.hn w.heap.size) B w0 (s.push (.cells ds)) (w.alloc (.cells cs e)) :=
  hi.push _ _ ⟨cs, e, alloc_last, hr.mono hi.push_ext.le, hs⟩

theorem does_alloc (hi : Inv g B w0 s w) {t : TypeId} {z : Value} (hz : tZero P t = some z) : Does P (Instr.alloc t true (.tuple #[])) g B w0 s (s.push (.cells (z.cells.toList.map .v))) w (.ptr s.hn 0) := by
  have hc := constV_cells (g := g) (tZero_spec hz).1
  exact ⟨_, _, _, by simp [Instr.alloc, run_zero hz, newVar, newRow], hi.push_ext, pushCells hi t hc.1 hc.2, bind_ptr⟩

theorem does_box (hi : Inv g B w0 s w) {t : TypeId} {d : D} {v : Value} (r : Rep g d v) (hs : d.cells.all (·.single) = true) : Does P (Instr.box t v) g B w0 s (s.push (.cells d.cells)) w (.ptr s.hn 0) :=
  ⟨_, _, _, by simp [Instr.box, newVar, newRow], hi.push_ext, pushCells hi t (r.cells hs) hs, bind_ptr⟩

theorem does_store (hi : Inv g B w0 s w) {t : TypeId} {n id off : Nat} {dx : D} {va vx : Value} {ds ds' : List D} {s' : St} (hn : tSize P t = some n) (ra : Rep g (.ptr id off) va) (rx : Rep g dx vx)
    (hg : s.get id = some (.cells ds)) (hl : dx.cells.length = n) (hs : dx.cells.all (·.single) = true) (hp : put ds dx.cells off = some ds') (hw : s.wr id dx.cells (.cells ds') = some s') :
    DoesU P (Instr.storeAt t va vx) g B w0 s' w := by
  cases ra with
  | ptr b hb =>
    have hr := rx.cells hs
    obtain ⟨w', h1, h2⟩ := turnCells (P := P) hi hb hg hp hr hs
    rw [wr_set hw]
    have hsz : vx.cells.size = n := by have := hr.1; simp at this; omega
    refine ⟨w', ?_, h2⟩
    simp only [Instr.storeAt, Instr.sureAddr, storeVar, Sem.run_bind, Sem.run_pure, Result.andThen_ok, run_size hn, hsz, ne_eq, not_true, if_false]
    simpa using h1

theorem does_mkmap (hi : Inv g B w0 s w) {t : TypeId} {k e : TypeId} (hu : P.underlying t = some (.map k e)) {r : Option Value} (hr : r = none ∨ ∃ kk n, r = some (.int kk n)) : Does P (Instr.makeMap t r) g B w0 s (s.push (.map [])) w (.map s.hn) := by
  have h2 : Inv (g.bind s.hn w.heap.size) B w0 (s.push (.map [])) (w.alloc (.map #[] 0)) :=
    hi.push _ _ ⟨#[], 0, alloc_last, .nil, .nil, by simp, by simp⟩
  refine ⟨.map (some w.heap.size), _, _, ?_, hi.push_ext, h2, .map _ (by simp [G.bind])⟩
  rcases hr with rfl | ⟨kk, n, rfl⟩
  · simp [Instr.makeMap]
  · simp [Instr.makeMap, run_under hu, asInt]; rfl

theorem does_range (hi : Inv g B w0 s w) {t : TypeId} {b : ByteArray} (hu : P.underlying t = some .string) : Does P (Instr.range t (.string b)) g B w0 s (s.push (.siter b 0)) w (.ptr s.hn 0) :=
  ⟨_, _, _, by simp [Instr.range, run_under hu], hi.push_ext, hi.push (.siter b 0) (.stringIter b 0) (alloc_last), bind_ptr⟩

theorem run_setObj_iter {b : Nat} {t : ByteArray} {p : Nat} {o : Obj} (h : w.heap[b]? = some (.stringIter t p)) : (setObj b o).run P w = .ok () { w with heap := w.heap.setIfInBounds b o } := by
  simp [setObj, Sem.run, h]
theorem run_getObj_iter {b : Nat} {t : ByteArray} {p : Nat} (h : w.heap[b]? = some (.stringIter t p)) : (getObj b).run P w = .ok (.stringIter t p) w := by
  simp [getObj, Sem.run, h]

theorem does_next (hi : Inv g B w0 s w) {ty : TypeId} {id : Nat} {b : ByteArray} {pos : Nat} {vx : Value} {d : D} {s' : St} (rx : Rep g (.ptr id 0) vx) (hg : s.get id = some (.siter b pos))
    (h : (if pos < b.size then
          match s.wr id [] (.siter b (pos + (Utf8.decode b pos).2)) with
          | some s => some (D.tup [.v (.bool true), i64 pos, .v (.int .i32 (Utf8.decode b pos).1)], s)
          | none => none
        else some (.tup [.v (.bool false)], s)) = some (d, s')) : Does P (Instr.next vx true ty) g B w0 s s' w d := by
  cases rx with
  | ptr b' hb =>
    have e1 : w.heap[b']? = some (.stringIter b pos) := hi.obj id _ b' hg hb
    split at h
    · rename_i hlt
      split at h
      · rename_i s1 hw
        cases h
        rw [wr_set hw]
        have hB := (hi.dom id b' hb).2.1
        have hlt' : b' < w.heap.size := (hi.dom id b' hb).2.2
        refine ⟨.tuple #[.bool true, goInt pos, .int .i32 (Utf8.decode b pos).1], _, g, ?_, Ext.refl _ _, hi.turn hb _ { w with heap := w.heap.setIfInBounds b' (.stringIter b (pos + (Utf8.decode b pos).2)) } ⟨rfl, rfl, rfl, by simp, fun k hk => ?_⟩ (fun k hk => ?_) ?_, ?_⟩
        · simp [Instr.next, run_getObj_iter e1, run_setObj_iter e1, hlt]
        · exact Array.getElem?_setIfInBounds_ne (by omega)
        · exact Array.getElem?_setIfInBounds_ne (Ne.symm hk)
        · simp [ObjOk, hlt']
        · exact Rep.tup [_, _, _] rfl (RepL.cons (.v _) (.cons (.v _) (.cons (.v _) .nil))).2
      · cases h
    · rename_i hlt
      cases h
      refine Does.of hi (v := .tuple #[.bool false]) ?_ (Rep.tup [_] rfl (RepL.cons (.v _) .nil).2)
      simp [Instr.next, run_getObj_iter e1, hlt]

/-! ### Elements, flat -/
theorem szOf_all {ys : List D} {vs : List Value} {v : Value} {sz : Nat} (r : RepL g ys vs) (h : ElemsAt w v vs) (hc : szOf ys sz = true) : ∀ x ∈ vs, x.cells.size = sz := by
  cases ys with
  | nil => rw [r.nil_inv]; intro x hx; cases hx
  | cons y ys =>
    obtain ⟨v0, ws, rfl, r0, _⟩ := r.cons_inv
    have h0 : y.szOk = true ∧ y.cells.length = sz := by simpa [szOf, szAt] using hc
    have hv0 : v0.cells.size = sz := by rw [← h0.2]; exact (r0.cells_len h0.1).symm
    intro x hx
    obtain ⟨i, hi⟩ := List.mem_iff_getElem?.1 hx
    generalize hvs : v0 :: ws = vs at *
    cases h with
    | nil => cases hvs
    | row b o cap sz' vs hcap hsz hh =>
      have e0 : vs[0]? = some v0 := by rw [← hvs]; rfl
      rw [(hh i x hi).1, ← (hh 0 v0 e0).1, hv0]
    | str b =>
      have one : ∀ z ∈ bytesV b, z.cells.size = 1 := fun z hz => by
        simp only [bytesV, List.mem_map] at hz
        obtain ⟨c, _, rfl⟩ := hz
        rfl
      rw [one x hx, ← hv0, one v0 (by rw [← hvs]; simp)]

theorem row_all {b o sz sz' : Nat} {xs : List D} {vs : List Value} (r : RepL g xs vs) (hr : Row g b o sz' vs) (hc : szOf xs sz = true) : ∀ x ∈ vs, x.cells.size = sz := by
  cases xs with
  | nil => rw [r.nil_inv]; intro x hx; cases hx
  | cons y ys =>
    obtain ⟨v0, ws, rfl, r0, _⟩ := r.cons_inv
    have h0 : y.szOk = true ∧ y.cells.length = sz := by simpa [szOf, szAt] using hc
    have hv0 : v0.cells.size = sz := by rw [← h0.2]; exact (r0.cells_len h0.1).symm
    intro x hx
    obtain ⟨i, hi⟩ := List.mem_iff_getElem?.1 hx
    rw [(hr.2 i x hi).1, ← (hr.2 0 v0 rfl).1, hv0]

theorem flatV_cell {sz : Nat} {vs : List Value} (hs : ∀ v ∈ vs, v.cells.size = sz) {j : Nat} {c : Value} (h : (flatV vs)[j]? = some c) :
    ∃ (i k : Nat) (v : Value), j = i * sz + k ∧ vs[i]? = some v ∧ v.cells[k]? = some c := by
  have hlt : j < (flatV vs).length := (List.getElem?_eq_some_iff.1 h).1
  rw [flatV_len hs] at hlt
  have hsz : 0 < sz := by
    rcases Nat.eq_zero_or_pos sz with rfl | hh
    · simp at hlt
    · exact hh
  have hd : j / sz < vs.length := Nat.div_lt_of_lt_mul (by rw [Nat.mul_comm]; exact hlt)
  have hm : j % sz < sz := Nat.mod_lt _ hsz
  have e1 : vs[j / sz]? = some vs[j / sz] := List.getElem?_eq_getElem hd
  have hz : (vs[j / sz]).cells.size = sz := hs _ (List.getElem_mem hd)
  have e2 : (vs[j / sz]).cells[j % sz]? = some ((vs[j / sz]).cells[j % sz]) := Array.getElem?_eq_getElem (by omega)
  have := flatV_get hs e1 e2
  rw [Nat.div_add_mod' j sz, h] at this
  cases this
  exact ⟨j / sz, j % sz, _, (Nat.div_add_mod' j sz).symm, e1, e2⟩

theorem lenOf_elems {v : Value} {vs : List Value} (h : ElemsAt w v vs) : (Builtin.lenOf v).run P w = .ok vs.length w := by
  cases h with
  | nil => rfl
  | row => rfl
  | str b => simp [Builtin.lenOf, bytesV]

theorem take_mem {α : Type} {l : List α} {n : Nat} {x : α} (h : x ∈ l.take n) : x ∈ l := List.mem_of_mem_take h

theorem run_cells_row {w' : World} {b o sz : Nat} {vs : List Value} (hs : ∀ v ∈ vs, v.cells.size = sz) (hc : ∀ (i : Nat) (v : Value), vs[i]? = some v → ∀ (j : Nat) (c : Value), v.cells[j]? = some c → w'.cell? ⟨b, o + i * sz + j, none⟩ = some c) :
    (loadCells ⟨b, o, none⟩ (vs.length * sz)).run P w' = .ok (flatV vs).toArray w' := by
  have := run_loadCells_list (P := P) w' ⟨b, o, none⟩ (flatV vs) (fun j c k => by
    obtain ⟨i, m, v, rfl, h1, h2⟩ := flatV_cell hs k
    rw [addr_add, show o + (i * sz + m) = o + i * sz + m from by omega]
    exact hc i v h1 m c h2)
  rw [flatV_len hs] at this
  exact this

theorem firstCells_elems {v : Value} {vs : List Value} {sz n : Nat} (h : ElemsAt w v vs) (hs : ∀ x ∈ vs, x.cells.size = sz) (hn : n ≤ vs.length) {w' : World} (hw : ∀ b o c, w.cell? ⟨b, o, none⟩ = some c → w'.cell? ⟨b, o, none⟩ = some c) :
    (Builtin.firstCells sz n v).run P w' = .ok (flatV (vs.take n)).toArray w' := by
  cases h with
  | nil => simp [Builtin.firstCells, flatV]
  | row b o cap sz' vs hcap hsz hh =>
    have hs' : ∀ x ∈ vs.take n, x.cells.size = sz := fun x hx => hs x (take_mem hx)
    have hlen : (vs.take n).length = n := by simp; omega
    have := run_cells_row (P := P) (w' := w') (b := b) (o := o) hs' (fun i x hx j c k => by
      rw [List.getElem?_take] at hx
      split at hx
      · have h1 := hh i x hx
        have : sz' = sz := by rw [← h1.1]; exact hs x (List.mem_of_getElem? hx)
        subst this
        exact hw _ _ _ (h1.2 j c k)
      · cases hx)
    rw [hlen] at this
    simpa [Builtin.firstCells] using this
  | str b =>
    simp only [Builtin.firstCells, Sem.run_pure]
    congr 1
    apply Array.ext'
    have h1 : ∀ l : List UInt8, flatV (l.map fun c => Value.int .u8 c.toNat) = l.map fun c => Value.int .u8 c.toNat := fun l => by
      induction l with
      | nil => rfl
      | cons a r ih =>
        simp only [flatV, List.map_cons, List.flatMap_cons] at *
        rw [ih]; rfl
    simp only [bytesV, List.length_map] at hn ⊢
    rw [← List.map_take, h1]
    simp [ByteArray.data_extract]

theorem flatMap_rep {ys : List D} {vs : List Value} (r : RepL g ys vs) (hs : (ys.flatMap D.cells).all (·.single) = true) : RepL g (ys.flatMap D.cells) (flatV vs) := by
  induction ys generalizing vs with
  | nil => rw [r.nil_inv]; exact .nil
  | cons y ys ih =>
    obtain ⟨v, ws, rfl, r0, r1⟩ := r.cons_inv
    simp only [List.flatMap_cons, List.all_append, Bool.and_eq_true] at hs
    simp only [flatV, List.flatMap_cons]
    exact (r0.cells hs.1).append (ih r1 hs.2)

theorem zcells_eq (z : Value) : zcells z = z.cells.toList.map .v := by cases z <;> rfl

theorem zcells_flat (z : Value) (n : Nat) : (List.replicate n (zcells z)).flatten = (flatV (List.replicate n z)).map .v := by
  induction n with
  | zero => rfl
  | succ n ih => simp only [List.replicate_succ, List.flatten_cons, flatV, List.flatMap_cons, List.map_append] at *; rw [ih, zcells_eq]

theorem zero_cells {z : Value} {n : Nat} : ((Array.range (n * z.cells.size)).map (z.cells[· % z.cells.size]!)).toList = flatV (List.replicate n z) := by
  rcases Nat.eq_zero_or_pos z.cells.size with h | h
  · have : flatV (List.replicate n z) = [] := by
      have := flatV_len (vs := List.replicate n z) (sz := 0) (fun v hv => by rw [(List.mem_replicate.1 hv).2]; exact h)
      simpa using this
    rw [this, h]; simp
  · exact flatV_zero rfl h

theorem zeros_rep {z : Value} (h : constV z = true) (n : Nat) : RepL g ((List.replicate n (zcells z)).flatten) (flatV (List.replicate n z)) ∧ ((List.replicate n (zcells z)).flatten).all (·.single) = true := by
  refine ⟨by rw [zcells_flat]; exact RepL.v _, ?_⟩
  have hc := (constV_cells (g := g) h).2
  rw [← zcells_eq] at hc
  simp only [List.all_eq_true, List.mem_flatten, List.mem_replicate] at *
  rintro x ⟨l, ⟨_, rfl⟩, hx⟩
  exact hc x hx

theorem does_copy (hi : Inv g B w0 s w) {t u ty el : TypeId} {sz id off len sz' : Nat} {fl : Bool} {dx : D} {vd vx : Value} {ds ds' ys : List D} {s' : St} (hu : P.underlying t = some (.slice el)) (hn : tSize P el = some sz)
    (rd : Rep g (.arr id off len sz' fl) vd) (rx : Rep g dx vx) {agg : Bool}
    (hg : s.get id = some (.cells ds)) (he : elems s agg dx = some ys) (hsz : szOf ys sz = true) (hs : ((ys.take (Nat.min ys.length len)).flatMap D.cells).all (·.single) = true)
    (hp : put ds ((ys.take (Nat.min ys.length len)).flatMap D.cells) off = some ds') (hw : s.wr id ((ys.take (Nat.min ys.length len)).flatMap D.cells) (.cells ds') = some s') :
    Does P (Builtin.copy_ #[t, u] ty #[vd, vx]) g B w0 s s' w (i64 (Nat.min ys.length len)) := by
  cases rd with
  | arr b cap hb hcap hsz0 hfl =>
    obtain ⟨vs, r, hel⟩ := elems_rep hi he rx
    have hr := flatMap_rep (r.take (Nat.min ys.length len)) hs
    obtain ⟨w', h1, h2⟩ := turnCells (P := P) hi hb hg hp hr hs
    rw [wr_set hw]
    have hlen : vs.length = ys.length := r.1
    have hf := firstCells_elems (P := P) (n := Nat.min ys.length len) hel (szOf_all r hel hsz) (by rw [hlen]; exact Nat.min_le_left _ _) (fun _ _ _ k => k)
    refine ⟨goInt (Nat.min ys.length len : Nat), w', g, ?_, Ext.refl _ _, h2, .v _⟩
    simp [Builtin.copy_, run_under hu, lenOf_elems hel, hlen, run_size hn, hf, h1]

theorem does_clear (hi : Inv g B w0 s w) {t ty el : TypeId} {zero : Value} {id off len sz' : Nat} {fl : Bool} {vd : Value} {ds ds' new : List D} {s' : St} (hu : P.underlying t = some (.slice el)) (hz : tZero P el = some zero)
    (rd : Rep g (.arr id off len sz' fl) vd) (hg : s.get id = some (.cells ds)) (hp : put ds (List.replicate len (zcells zero)).flatten off = some ds') (hw : s.wr id new (.cells ds') = some s') :
    Does P (Builtin.clear_ #[t] ty #[vd]) g B w0 s s' w (.v undef) := by
  cases rd with
  | arr b cap hb hcap hsz0 hfl =>
    have hzr := zeros_rep (g := g) (tZero_spec hz).1 len
    obtain ⟨w', h1, h2⟩ := turnCells (P := P) hi hb hg hp hzr.1 hzr.2
    rw [wr_set hw]
    refine ⟨undef, w', g, ?_, Ext.refl _ _, h2, .v _⟩
    have hzc : (Builtin.zeroCells zero.cells len).toList = flatV (List.replicate len zero) := zero_cells
    cases len with
    | zero =>
      simp only [List.replicate_zero, flatV, List.flatMap_nil, storeCells, Sem.run_pure, Result.ok.injEq] at h1
      obtain ⟨_, rfl⟩ := h1
      simp [Builtin.clear_, run_under hu]; rfl
    | succ len =>
      simp [Builtin.clear_, run_under hu, run_zero hz, hzc, h1]
      rfl

theorem does_clear_nil (hi : Inv g B w0 s w) {t ty el : TypeId} {vd : Value} (hu : P.underlying t = some (.slice el)) (hv : vd = .slice none 0 0 ∨ ∃ a c, vd = .slice a 0 c) :
    Does P (Builtin.clear_ #[t] ty #[vd]) g B w0 s s w (.v undef) := by
  refine Does.of hi (v := undef) ?_ (.v _)
  rcases hv with rfl | ⟨a, c, rfl⟩
  · simp [Builtin.clear_, run_under hu]; rfl
  · cases a <;> (simp [Builtin.clear_, run_under hu]; rfl)

theorem does_mkslice (hi : Inv g B w0 s w) {t el : TypeId} {sz bytes : Nat} {zero : Value} {kl kc : IntKind} {l c : Int} {d : D} {s' : St} (hu : P.underlying t = some (.slice el)) (hn : tSize P el = some sz) (hb : tBytes P el = some bytes)
    (hz : tZero P el = some zero) (h0 : sz ≠ 0) (hzs : zero.cells.size = sz)
    (h : (if 0 ≤ l ∧ l ≤ c ∧ c.toNat * bytes ≤ cap40 ∧ c ≤ cap40 then
        if l = 0 ∧ c > 0 then some (D.list [] (.tok s.tn), s.pushTok 0 sz)
        else if c = 0 then some (.list [] .full, s)
        else some (.arr s.hn 0 l.toNat sz (decide (l = c)), s.push (.cells ((List.replicate c.toNat (zcells zero)).flatten)))
      else none) = some (d, s')) : Does P (Instr.makeSlice t (.int kl l) (.int kc c)) g B w0 s s' w d := by
  split at h
  · rename_i hc
    obtain ⟨h1, h2, h3, h4⟩ := hc
    obtain ⟨_, i, hi1, hi3⟩ := tZero_spec hz
    have hi2 : i.bytes = bytes := by
      simp only [tBytes, hi1, Option.map_some, Option.some.injEq] at hb; exact hb
    have hisz : i.size = sz := by
      simp only [tSize, hi1, Option.map_some, Option.some.injEq] at hn; exact hn
    have hbc : (i.bytes : Int) * c ≤ 281474976710656 := by
      have : (bytes : Int) * c = ((c.toNat * bytes : Nat) : Int) := by
        rw [Nat.mul_comm, Int.natCast_mul, Int.toNat_of_nonneg (by omega)]
      rw [hi2, this]
      simp only [cap40] at h3
      omega
    have hrun : ∀ (k : Nat), c.toNat = k → (Instr.makeSlice t (.int kl l) (.int kc c)).run P w = .ok (.slice (some ⟨w.heap.size, 0, none⟩) l.toNat c.toNat) (w.alloc (.cells (flatV (List.replicate k zero)).toArray el)) := fun k hk => by
      have := run_make (P := P) w t el i zero hu hi1 hi3 kl kc l c h1 h2 hbc (by simp only [cap40] at h4; omega)
      rw [this, hisz, ← hk]
      congr 2
      congr 1
      apply Array.ext'
      rw [← hzs]
      exact zero_cells
    split at h
    · rename_i hc0
      cases h
      obtain ⟨rfl, hcp⟩ := hc0
      have hr := hrun _ rfl
      have hB := hi.B_le
      have hcsz : (flatV (List.replicate c.toNat zero)).length = c.toNat * sz := by
        rw [flatV_len (sz := sz) (fun v hv => by rw [(List.mem_replicate.1 hv).2]; exact hzs)]; simp
      have hinv := hi.retok (s' := s.pushTok 0 sz) (t := s.tn) (n' := 0) (sz := sz) (b := w.heap.size) (o := 0) (cap := c.toNat) (fun _ => none) (w.alloc (.cells (flatV (List.replicate c.toNat zero)).toArray el))
        rfl rfl (by simp [St.pushTok, hi.tl]) (by simp [St.pushTok]) (by simp [St.pushTok])
        (fun t' => by simp only [St.tok, St.pushTok, getR_cons])
        (fun m _ => hi.tok_ge (Nat.le_refl _)) ((Below.refl B w).alloc hB _) (fun k hk _ => getElem?_alloc_lt w _ hk) hB (fun i e => absurd (hi.dom i _ e).2.2 (Nat.lt_irrefl _))
        (fun t1 n1 sz1 v1 _ a b c => absurd (tok_heap (hi.tokok t1 n1 sz1 a) b c) (Nat.lt_irrefl _))
        (fun j v e => absurd (hi.imm_lt e) (Nat.lt_irrefl _)) (fun j v e => by cases e) (Nat.zero_le _) (by omega) _ el alloc_last (by simp [hcsz])
        (fun j _ _ => ⟨by cases e : g.imm w.heap.size j with
          | none => rfl
          | some v => exact absurd (hi.imm_lt e) (Nat.lt_irrefl _), rfl⟩)
      refine ⟨_, _, _, hr, ⟨G.le_freeze.trans (G.le_setTok (g := g.freeze w.heap.size fun _ => none) (hi.tok_ge (Nat.le_refl _))), fun i _ => rfl⟩, hinv, ?_⟩
      exact .list w.heap.size 0 c.toNat sz [] rfl (Nat.zero_le _) (fun i d v a => by simp at a) rfl ⟨by omega, fun i v a => by simp at a⟩ (by simp [TkOk, G.setTok])
    · split at h
      · rename_i hc0
        cases h
        subst hc0
        have hl0 : l = 0 := by omega
        subst hl0
        have hr := hrun 0 rfl
        exact ⟨_, _, g, hr, Ext.refl _ _, hi.alloc _, .list w.heap.size 0 0 sz [] rfl (Nat.zero_le _) (fun i d v a => by simp at a) rfl ⟨by omega, fun i v a => by simp at a⟩ rfl⟩
      · rename_i hc0
        cases h
        have hr := hrun _ rfl
        have hzr := zeros_rep (g := g) (tZero_spec hz).1 c.toNat
        exact ⟨_, _, _, hr, hi.push_ext, pushCells hi el (by simpa using hzr.1) hzr.2, .arr w.heap.size c.toNat (by simp [G.bind]) (by omega) (by omega) (fun hh => by simp only [decide_eq_true_eq] at hh; omega)⟩
  · cases h

end
end Go.Fk

/- Soundness of the operations, twelfth part: maps that turn. -/
namespace Go.Fk
open Go.RowKit (Below)
section
variable {P : Program} {g : G} {B : Nat} {w0 : Base} {s : St} {w : World}

theorem setE_none {kk : KeyK} {k x : D} : ∀ {es : List (D × D)}, (∀ (i : Nat) (e : D × D), es[i]? = some e → keq kk k e.1 = some false) → setE kk k x es = es ++ [(k, x)]
  | [], _ => rfl
  | (k', y) :: r, h => by
    have h0 : keq kk k k' = some false := h 0 (k', y) rfl
    simp only [setE, h0, List.cons_append]
    rw [setE_none fun i e he => h (i + 1) e (by simpa using he)]
theorem setE_at {kk : KeyK} {k x : D} : ∀ {es : List (D × D)} {j : Nat} {e : D × D}, es[j]? = some e → keq kk k e.1 = some true → (∀ (i : Nat) (e' : D × D), i < j → es[i]? = some e' → keq kk k e'.1 = some false) →
    setE kk k x es = es.set j (k, x)
  | [], j, e, h, _, _ => by simp at h
  | (k', y) :: r, 0, e, h, hq, _ => by
    simp at h; subst h
    simp only at hq
    simp [setE, hq]
  | (k', y) :: r, j + 1, e, h, hq, hb => by
    have h0 : keq kk k k' = some false := hb 0 (k', y) (by omega) rfl
    simp only [setE, h0, List.set_cons_succ]
    rw [setE_at (by simpa using h) hq fun i e' hi he => hb (i + 1) e' (by omega) (by simpa using he)]
theorem delE_none {kk : KeyK} {k : D} : ∀ {es : List (D × D)}, (∀ (i : Nat) (e : D × D), es[i]? = some e → keq kk k e.1 = some false) → delE kk k es = es
  | [], _ => rfl
  | (k', y) :: r, h => by
    have h0 : keq kk k k' = some false := h 0 (k', y) rfl
    simp only [delE, h0]
    rw [delE_none fun i e he => h (i + 1) e (by simpa using he)]
theorem delE_at {kk : KeyK} {k : D} : ∀ {es : List (D × D)} {j : Nat} {e : D × D}, es[j]? = some e → keq kk k e.1 = some true → (∀ (i : Nat) (e' : D × D), i < j → es[i]? = some e' → keq kk k e'.1 = some false) →
    delE kk k es = es.eraseIdx j
  | [], j, e, h, _, _ => by simp at h
  | (k', y) :: r, 0, e, h, hq, _ => by
    simp at h; subst h
    simp only at hq
    simp [delE, hq]
  | (k', y) :: r, j + 1, e, h, hq, hb => by
    have h0 : keq kk k k' = some false := hb 0 (k', y) (by omega) rfl
    simp only [delE, h0, List.eraseIdx_cons_succ]
    rw [delE_at (by simpa using h) hq fun i e' hi he => hb (i + 1) e' (by omega) (by simpa using he)]

theorem veq_same {k : SK} {a b : D} (h : veq k a b = some true) : ∃ x, a = .v x ∧ b = .v x ∧ ∀ n, Instr.sameBits n x x = true := by
  obtain ⟨x, y, rfl, rfl⟩ := veq_v h
  cases k <;> cases x <;> cases y <;> simp only [veq] at h <;> first | (cases h; done) | skip
  · simp only [Option.some.injEq, beq_iff_eq] at h; subst h; exact ⟨_, rfl, rfl, fun n => by simp [Instr.sameBits]⟩
  · split at h
    · rename_i hk; subst hk
      simp only [Option.some.injEq, beq_iff_eq] at h; subst h; exact ⟨_, rfl, rfl, fun n => by simp [Instr.sameBits]⟩
    · cases h
  · rename_i p q
    simp only [Option.some.injEq, beq_iff_eq] at h
    have h2 : p = q := by
      obtain ⟨p⟩ := p; obtain ⟨q⟩ := q
      have : p = q := Array.ext' h
      rw [this]
    subst h2
    exact ⟨_, rfl, rfl, fun n => by simp [Instr.sameBits, beq_toListBytes]⟩

theorem veqs_same : ∀ {ks : List SK} {a b : List D}, veqs ks a b = some true → ∃ xs : List Value, a = xs.map .v ∧ b = xs.map .v ∧ ∀ n, ∀ x ∈ xs, Instr.sameBits n x x = true
  | [], [], [], _ => ⟨[], rfl, rfl, fun _ _ h => by cases h⟩
  | k :: ks, a :: r, b :: t, h => by
    simp only [veqs] at h
    split at h
    · rename_i x y h1 h2
      simp only [Option.some.injEq, Bool.and_eq_true] at h
      obtain ⟨rfl, rfl⟩ := h
      obtain ⟨x, rfl, rfl, hx⟩ := veq_same h1
      obtain ⟨xs, rfl, rfl, hxs⟩ := veqs_same h2
      exact ⟨x :: xs, rfl, rfl, fun n z hz => by
        rcases List.mem_cons.1 hz with rfl | hz
        · exact hx n
        · exact hxs n z hz⟩
    · cases h
  | [], [], _ :: _, h | [], _ :: _, [], h | [], _ :: _, _ :: _, h | _ :: _, [], [], h | _ :: _, [], _ :: _, h | _ :: _, _ :: _, [], h => by simp [veqs] at h

theorem keq_same {kk : KeyK} {da db : D} {a b : Value} (ra : Rep g da a) (rb : Rep g db b) (hq : keq kk da db = some true) : Instr.sameBits 10000 b a = true := by
  unfold keq at hq
  split at hq
  · obtain ⟨x, rfl, rfl, h⟩ := veq_same hq
    cases ra; cases rb
    exact h _
  · obtain ⟨xs, rfl, rfl, h⟩ := veqs_same hq
    have e1 := rep_agg_v ra
    have e2 := rep_agg_v rb
    subst e1; subst e2
    simp only [Instr.sameBits, beq_self_eq_true, Bool.true_and, List.all_eq_true]
    rintro ⟨x, y⟩ hxy
    obtain ⟨i, hi⟩ := List.mem_iff_getElem?.1 hxy
    rw [List.getElem?_zip_eq_some] at hi
    have : x = y := by have h1 := hi.1; have h2 := hi.2; simp only at h1 h2; rw [h1] at h2; exact Option.some.inj h2
    subst this
    exact h _ x (by simpa using List.mem_of_getElem? hi.1)
  · cases hq

/-- A map's object, turned. -/
theorem turnMap (hi : Inv g B w0 s w) {id b : Nat} {es' : List (D × D)} {ents ents' : Array MapEntry} {clock clock' : Nat} (hb : g.blk id = some b) (e1 : w.heap[b]? = some (.map ents clock))
    (r1 : RepL g (es'.map (·.1)) (ents'.toList.map (·.key))) (r2 : RepL g (es'.map (·.2)) (ents'.toList.map (·.val))) (r3 : (ents'.toList.map (·.born)).Nodup) (r4 : ∀ e ∈ ents'.toList, e.born < clock') :
    (setObj b (.map ents' clock')).run P w = .ok () { w with heap := w.heap.setIfInBounds b (.map ents' clock') } ∧ Inv g B w0 (s.set id (.map es')) { w with heap := w.heap.setIfInBounds b (.map ents' clock') } := by
  have hB := (hi.dom id b hb).2.1
  have hlt : b < w.heap.size := (hi.dom id b hb).2.2
  refine ⟨MapKept.run_setObj_map _ e1, hi.turn hb _ _ ⟨rfl, rfl, rfl, by simp, fun k hk => Array.getElem?_setIfInBounds_ne (by omega)⟩ (fun k hk => Array.getElem?_setIfInBounds_ne (Ne.symm hk)) ⟨ents', clock', ?_, r1, r2, r3, r4⟩⟩
  simp [hlt]

theorem does_mupd (hi : Inv g B w0 s w) {t kt el : TypeId} {kk : KeyK} {id : Nat} {dk dx : D} {vm vk vx : Value} {es : List (D × D)} {s' : St} {new : List D} {r : Option D} (hu : P.underlying t = some (.map kt el)) (hk : keyK P kt = some kk)
    (rm : Rep g (.map id) vm) (rk : Rep g dk vk) (rx : Rep g dx vx) (hkey : D.isKey kk dk = true) (hg : s.get id = some (.map es)) (hf : findE kk dk es = some r)
    (hw : s.wr id new (.map (setE kk dk dx es)) = some s') : DoesU P (Instr.mapUpdate t vm vk vx) g B w0 s' w := by
  cases rm with
  | map b hb =>
    obtain ⟨ents, clock, e1, e2, e3, e4, e5⟩ := hi.obj id _ b hg hb
    have hc := run_checkKeyD (P := P) (w := w) hk rk hkey false
    have hgo := MapKept.run_getObj_map (P := P) e1
    rw [wr_set hw]
    rcases run_findKey' (w := w) hk rk e2 e3 hf with ⟨rfl, hrun, hall⟩ | ⟨j, e, m, hj, hm, hr, hrep, hrun, hq, hbef⟩
    · rw [setE_none hall]
      have key := turnMap (P := P) hi (es' := es ++ [(dk, dx)]) (ents' := ents.push ⟨vk, vx, clock⟩) (clock' := clock + 1) hb e1 (by simpa using e2.append (.cons rk .nil)) (by simpa using e3.append (.cons rx .nil))
        (by
          simp only [Array.toList_push, List.map_append, List.map_cons, List.map_nil]
          refine List.nodup_append.2 ⟨e4, by simp, fun a ha c hc' => ?_⟩
          simp only [List.mem_singleton] at hc'
          subst hc'
          obtain ⟨x, hx, rfl⟩ := List.mem_map.1 ha
          exact Nat.ne_of_lt (e5 x hx))
        (fun x hx => by
          simp only [Array.toList_push, List.mem_append, List.mem_singleton] at hx
          rcases hx with hx | rfl
          · have := e5 x hx; omega
          · simp)
      exact ⟨_, by simp [Instr.mapUpdate, run_under hu, hgo, hc, hrun, key.1], key.2⟩
    · rw [setE_at hj hq hbef]
      have hmk : Rep g e.1 m.key := e2.2 j e.1 m.key (by simp [hj]) (by simp [hm])
      have hsame := keq_same rk hmk hq
      have hma : ents[j]? = some m := by simpa using hm
      have hlt : j < es.length := (List.getElem?_eq_some_iff.1 hj).1
      have hml : (ents.modify j fun e => { e with key := vk, val := vx }).toList = ents.toList.set j ⟨vk, vx, m.born⟩ := by
        apply List.ext_getElem?
        intro i
        rw [Array.toList_modify, List.getElem?_modify, List.getElem?_set]
        by_cases hij : j = i
        · subst hij
          have hl : j < ents.size := by have := (List.getElem?_eq_some_iff.1 hm).1; simpa using this
          rw [hm]; simp [hl]
        · simp [hij]
      have key := turnMap (P := P) hi (es' := es.set j (dk, dx)) (ents' := ents.modify j fun e => { e with key := vk, val := vx }) (clock' := clock) hb e1
        (by rw [hml, List.map_set, List.map_set]; exact e2.set j rk) (by rw [hml, List.map_set, List.map_set]; exact e3.set j rx)
        (by
          rw [hml, List.map_set]
          have : (ents.toList.map (·.born)).set j m.born = ents.toList.map (·.born) := by
            apply List.ext_getElem?
            intro i
            rw [List.getElem?_set]
            by_cases hij : j = i
            · subst hij
              have hl : j < ents.toList.length := (List.getElem?_eq_some_iff.1 hm).1
              simp only [List.length_map, hl, if_true, List.getElem?_map, hm, Option.map_some]
            · simp [hij]
          simp only at this ⊢
          rw [this]; exact e4)
        (fun x hx => by
          rw [hml] at hx
          rcases List.mem_or_eq_of_mem_set hx with hx | rfl
          · exact e5 x hx
          · exact e5 m (List.mem_of_getElem? hm))
      exact ⟨_, by simp [Instr.mapUpdate, run_under hu, hgo, hc, hrun, Instr.keyThatStays, hma, hsame, key.1], key.2⟩

theorem does_delete (hi : Inv g B w0 s w) {t u ty kt el : TypeId} {kk : KeyK} {id : Nat} {dk : D} {vm vk : Value} {es : List (D × D)} {s' : St} {new : List D} {r : Option D} (hu : P.underlying t = some (.map kt el)) (hk : keyK P kt = some kk)
    (rm : Rep g (.map id) vm) (rk : Rep g dk vk) (hkey : D.isKey kk dk = true) (hg : s.get id = some (.map es)) (hf : findE kk dk es = some r)
    (hw : s.wr id new (.map (delE kk dk es)) = some s') : Does P (Builtin.delete_ #[t, u] ty #[vm, vk]) g B w0 s s' w (.v undef) := by
  cases rm with
  | map b hb =>
    obtain ⟨ents, clock, e1, e2, e3, e4, e5⟩ := hi.obj id _ b hg hb
    have hc := run_checkKeyD (P := P) (w := w) hk rk hkey ents.isEmpty
    have hgo := MapKept.run_getObj_map (P := P) e1
    rw [wr_set hw]
    rcases run_findKey' (w := w) hk rk e2 e3 hf with ⟨rfl, hrun, hall⟩ | ⟨j, e, m, hj, hm, hr, hrep, hrun, hq, hbef⟩
    · rw [delE_none hall]
      have key := turnMap (P := P) hi (es' := es) (ents' := ents) (clock' := clock) hb e1 e2 e3 e4 e5
      exact ⟨undef, _, g, by simp [Builtin.delete_, run_under hu, hgo, hc, hrun, key.1]; rfl, Ext.refl _ _, key.2, .v _⟩
    · rw [delE_at hj hq hbef]
      have hl : j < ents.size := by have := (List.getElem?_eq_some_iff.1 hm).1; simpa using this
      have hml : (ents.eraseIdxIfInBounds j).toList = ents.toList.eraseIdx j := by
        unfold Array.eraseIdxIfInBounds
        rw [dif_pos hl]
        simp
      have hmap : ∀ {α β : Type} (f : α → β) (l : List α) (j : Nat), (l.eraseIdx j).map f = (l.map f).eraseIdx j := fun f l j => by
        induction l generalizing j with
        | nil => rfl
        | cons a r ih => cases j <;> simp [ih]
      have er : ∀ {ds : List D} {vs : List Value}, RepL g ds vs → RepL g (ds.eraseIdx j) (vs.eraseIdx j) := fun {ds vs} h => by
        rw [List.eraseIdx_eq_take_drop_succ, List.eraseIdx_eq_take_drop_succ]
        exact (h.take j).append (h.drop (j + 1))
      have key := turnMap (P := P) hi (es' := es.eraseIdx j) (ents' := ents.eraseIdxIfInBounds j) (clock' := clock) hb e1 (by rw [hml, hmap, hmap]; exact er e2) (by rw [hml, hmap, hmap]; exact er e3)
        (by rw [hml, hmap]; exact (List.eraseIdx_sublist _ _).nodup e4) (fun x hx => e5 x (by rw [hml] at hx; exact (List.eraseIdx_sublist _ _).subset hx))
      exact ⟨undef, _, g, by simp [Builtin.delete_, run_under hu, hgo, hc, hrun, key.1]; rfl, Ext.refl _ _, key.2, .v _⟩

theorem does_delete_nil (hi : Inv g B w0 s w) {t u ty kt el : TypeId} {kk : KeyK} {dk : D} {vk : Value} (hu : P.underlying t = some (.map kt el)) (hk : keyK P kt = some kk)
    (rk : Rep g dk vk) (hkey : D.isKey kk dk = true) : Does P (Builtin.delete_ #[t, u] ty #[.map none, vk]) g B w0 s s w (.v undef) := by
  have hc := run_checkKeyD (P := P) (w := w) hk rk hkey true
  exact Does.of hi (v := undef) (by simp [Builtin.delete_, run_under hu, hc]; rfl) (.v _)

end
end Go.Fk

/- Soundness of the operations, thirteenth part: append. -/
namespace Go.Fk
open Go.RowKit (Below)
section
variable {P : Program} {g : G} {B : Nat} {w0 : Base} {s : St} {w : World}

/-- What append adds: a slice's or a string's elements, or so many zeros. -/
def AppX (P : Program) (w : World) (u : TypeId) (z vx : Value) (vs : List Value) : Prop :=
  (∃ du, P.underlying u = some du ∧ (∀ k, du ≠ .int k) ∧ ElemsAt w vx vs) ∨
  (∃ k kk n, P.underlying u = some (.int k) ∧ vx = .int kk (n : Nat) ∧ n ≤ cap40 ∧ vs = List.replicate n z)

theorem wrap64_of (n : Int) (h0 : 0 ≤ n) (h1 : n < 9223372036854775808) : IntKind.i64.wrap n = n := by rw [IntKind.wrap_i64]; omega

theorem append_du {t u ty el : TypeId} {du : TypeDesc} (hu : P.underlying t = some (.slice el)) (hu2 : P.underlying u = some du) (hd : ∀ k, du ≠ .int k) {base : Option Addr} {n c : Nat} {x : Value} :
    (Builtin.append_ #[t, u] ty #[.slice base n c, x]).run P w = (Builtin.append_ #[t, t] ty #[.slice base n c, x]).run P w := by
  unfold Builtin.append_
  rw [show (#[t, u][0]? : Option TypeId) = some t from rfl, show (#[t, u][1]? : Option TypeId) = some u from rfl, show (#[t, t][0]? : Option TypeId) = some t from rfl, show (#[t, t][1]? : Option TypeId) = some t from rfl,
    show (#[Value.slice base n c, x][0]? : Option Value) = some (.slice base n c) from rfl, show (#[Value.slice base n c, x][1]? : Option Value) = some x from rfl]
  dsimp only
  rw [Sem.run_bind, Sem.run_bind, run_under hu, Result.andThen_ok, Result.andThen_ok]
  dsimp only
  rw [Sem.run_bind, Sem.run_bind]
  congr 1
  funext sz w'
  rw [Sem.run_bind, Sem.run_bind, run_under hu, run_under hu2, Result.andThen_ok, Result.andThen_ok]
  cases du <;> first | rfl | exact absurd rfl (hd _)

section
variable {t u ty el : TypeId} {sz bytes : Nat} {z : Value} {vx : Value} {vs : List Value} (hu : P.underlying t = some (.slice el)) (hn : tSize P el = some sz) (hb : tBytes P el = some bytes) (hz : tZero P el = some z)
  (h0 : sz ≠ 0) (hzs : z.cells.size = sz) (hx : AppX P w u z vx vs) (hs : ∀ x ∈ vs, x.cells.size = sz) (hby : vs.length * bytes ≤ 140737488355328)
include hu hn hb hz h0 hzs hx hs hby

theorem run_app_fit {b o sLen sCap : Nat} (hroom : sLen + vs.length ≤ sCap) {w' : World} (hst : (storeCells ⟨b, o + sLen * sz, none⟩ (flatV vs)).run P w = .ok () w') :
    (Builtin.append_ #[t, u] ty #[.slice (some ⟨b, o, none⟩) sLen sCap, vx]).run P w = .ok (.slice (some ⟨b, o, none⟩) (sLen + vs.length) sCap) w' := by
  obtain ⟨_, i, hi1, hi3⟩ := tZero_spec hz
  have hi2 : i.bytes = bytes := by simp only [tBytes, hi1, Option.map_some, Option.some.injEq] at hb; exact hb
  have hisz : i.size = sz := by simp only [tSize, hi1, Option.map_some, Option.some.injEq] at hn; exact hn
  rcases hx with ⟨du, hu2, hd, hel⟩ | ⟨k, kk, n, hu2, rfl, hcap, rfl⟩
  · have hf := firstCells_elems (P := P) (n := vs.length) hel hs (Nat.le_refl _) (fun _ _ _ k => k)
    rw [List.take_length] at hf
    rw [append_du hu hu2 hd]
    simp [Builtin.append_, run_under hu, run_size hn, lenOf_elems hel, hroom, hf, addr_add, hst]
  · simp only [List.length_replicate] at *
    have hw : IntKind.i64.wrap (n : Int) = n := wrap64_of _ (by omega) (by simp only [cap40] at hcap; omega)
    have hneg : ¬ ((n : Int) < 0) := by omega
    have hbig : ¬ ((281474976710656 : Int) < (n : Int) * (bytes : Int)) := by rw [← Int.natCast_mul]; omega
    have hzc : (Builtin.zeroCells z.cells n).toList = flatV (List.replicate n z) := zero_cells
    by_cases hn0 : n = 0
    · subst hn0
      simp only [List.replicate_zero, flatV, List.flatMap_nil, storeCells, Sem.run_pure, Result.ok.injEq] at hst
      obtain ⟨_, rfl⟩ := hst
      have hw0 : IntKind.i64.wrap 0 = 0 := wrap64_of 0 (by omega) (by omega)
      have hr : sLen ≤ sCap := by simpa using hroom
      simp [Builtin.append_, run_under hu, run_under hu2, sizeOf, typeInfo, hi1, asInt, asIntOf, hw0, hr, storeCells]
    · have hns : n * sz ≠ 0 := Nat.mul_ne_zero hn0 h0
      simp [Builtin.append_, run_under hu, run_under hu2, sizeOf, typeInfo, hi1, hi2, hisz, asInt, asIntOf, hw, hneg, hbig, hroom, hns, run_zero hz, hzc, addr_add, hst, hn0, h0]

theorem run_app_nil (hvs : vs = []) : (Builtin.append_ #[t, u] ty #[.slice none 0 0, vx]).run P w = .ok (.slice none 0 0) w := by
  obtain ⟨_, i, hi1, hi3⟩ := tZero_spec hz
  subst hvs
  rcases hx with ⟨du, hu2, hd, hel⟩ | ⟨k, kk, n, hu2, rfl, hcap, hr⟩
  · have hf := firstCells_elems (P := P) (n := 0) hel hs (Nat.le_refl _) (fun _ _ _ k => k)
    have hl := lenOf_elems (P := P) hel
    have hisz : i.size = sz := by simp only [tSize, hi1, Option.map_some, Option.some.injEq] at hn; exact hn
    simp only [List.length_nil] at hl
    rw [append_du hu hu2 hd]
    simp [Builtin.append_, run_under hu, run_size hn, hl, hf]
  · have hn0 : n = 0 := by cases n with
      | zero => rfl
      | succ n => cases hr
    subst hn0
    have hw : IntKind.i64.wrap 0 = 0 := wrap64_of _ (by omega) (by omega)
    simp [Builtin.append_, run_under hu, run_under hu2, sizeOf, typeInfo, hi1, asInt, asIntOf, hw]

theorem run_app_grow {base : Option Addr} {sLen sCap : Nat} {olds : List Value} (hold : ∀ w' : World, (∀ b o c, w.cell? ⟨b, o, none⟩ = some c → w'.cell? ⟨b, o, none⟩ = some c) → (Builtin.firstCells sz sLen (.slice base sLen sCap)).run P w' = .ok olds.toArray w')
    (hg : sCap < sLen + vs.length) (hfit : (sLen + vs.length) * bytes ≤ 140737488355328) (h63 : sLen + vs.length ≤ 9223372036854775807) :
    (Builtin.append_ #[t, u] ty #[.slice base sLen sCap, vx]).run P w = .ok (.slice (some ⟨w.heap.size, 0, none⟩) (sLen + vs.length) (grownCap w (sLen + vs.length) sCap el))
      (w.drew.alloc (.cells (olds ++ flatV vs ++ flatV (List.replicate (grownCap w (sLen + vs.length) sCap el - (sLen + vs.length)) z)).toArray el)) := by
  obtain ⟨_, i, hi1, hi3⟩ := tZero_spec hz
  have hi2 : i.bytes = bytes := by simp only [tBytes, hi1, Option.map_some, Option.some.injEq] at hb; exact hb
  have hisz : i.size = sz := by simp only [tSize, hi1, Option.map_some, Option.some.injEq] at hn; exact hn
  have h48 : ¬ (281474976710656 < Builtin.nextslicecap (sLen + vs.length) sCap * bytes) := Nat.not_lt.2 (growslice_fits hg hfit)
  have h63' : ¬ (9223372036854775807 < (sLen : Int) + (vs.length : Int)) := by omega
  have hroom : ¬ (sLen + vs.length ≤ sCap) := by omega
  have ho := hold w.drew (fun _ _ _ k => k)
  have zc : ∀ m, Builtin.zeroCells z.cells m = (flatV (List.replicate m z)).toArray := fun m => by
    apply Array.ext'
    exact zero_cells
  rcases hx with ⟨du, hu2, hd, hel⟩ | ⟨k, kk, n, hu2, rfl, hcap, rfl⟩
  · have hf := firstCells_elems (P := P) (n := vs.length) hel hs (Nat.le_refl _) (w' := w.drew) (fun _ _ _ k => k)
    rw [List.take_length] at hf
    rw [append_du hu hu2 hd]
    simp [Builtin.append_, run_under hu, run_size hn, typeInfo, hi1, hi2, lenOf_elems hel, hroom, h48, h63', Question.forced, ho, hf, newRow, grownCap, zeroValue, hi3, zc]
  · simp only [List.length_replicate] at *
    have hw : IntKind.i64.wrap (n : Int) = n := wrap64_of _ (by omega) (by simp only [cap40] at hcap; omega)
    have hneg : ¬ ((n : Int) < 0) := by omega
    have hbig : ¬ ((281474976710656 : Int) < (n : Int) * (bytes : Int)) := by rw [← Int.natCast_mul]; omega
    by_cases hn0 : n = 0
    · subst hn0
      have hw0 : IntKind.i64.wrap 0 = 0 := wrap64_of 0 (by omega) (by omega)
      have hr : ¬ sLen ≤ sCap := by simpa using hroom
      have h48r : ¬ (281474976710656 < Builtin.nextslicecap sLen sCap * bytes) := by simpa using h48
      have h63r : ¬ (9223372036854775807 < (sLen : Int)) := by simpa using h63'
      simp [Builtin.append_, run_under hu, run_under hu2, sizeOf, typeInfo, hi1, hi2, hisz, asInt, asIntOf, hw0, hr, h48r, h63r, Question.forced, ho, newRow, grownCap, zeroValue, hi3, zc, flatV]
    · have hns : n * sz ≠ 0 := Nat.mul_ne_zero hn0 h0
      simp [Builtin.append_, run_under hu, run_under hu2, sizeOf, typeInfo, hi1, hi2, hisz, asInt, asIntOf, hw, hneg, hbig, hroom, hns, h48, h63', Question.forced, ho, newRow, grownCap, zeroValue, hi3, zc, hn0, h0]
end

end
end Go.Fk

/- Soundness of the operations, fourteenth part: append, for the abstract state. -/
namespace Go.Fk
open Go.RowKit (Below)
section
variable {P : Program} {g : G} {B : Nat} {w0 : Base} {s : St} {w : World}

/-- A list laid into a new block, its token there. -/
theorem growTok (hi : Inv g B w0 s w) {t sz cap : Nat} {s' : St} {zs : List D} {us : List Value} {el : TypeId} {tail : List Value}
    (hsh : s'.heap = s.heap) (hsn : s'.hn = s.hn) (htl : s'.toks.length = s'.tn) (htn : s.tn ≤ s'.tn) (ht : t < s'.tn)
    (hst : ∀ t', s'.tok t' = if t' = t then some (zs.length, sz) else s.tok t') (hg : ∀ m, zs.length ≤ m → g.tok t m = none)
    (r : RepL g zs us) (hcl : D.clL 0 zs = true) (hs : ∀ x ∈ us, x.cells.size = sz) (hsz : 0 < sz) (htail : tail.length = (cap - zs.length) * sz) (hcap : zs.length ≤ cap) :
    ∃ g', Ext s.hn g g' ∧ Inv g' B w0 s' (w.drew.alloc (.cells (flatV us ++ tail).toArray el)) ∧ Rep g' (.list zs (.tok t)) (.slice (some ⟨w.heap.size, 0, none⟩) zs.length cap) := by
  have hlen : us.length = zs.length := r.1
  have hfl : (flatV us).length = zs.length * sz := by rw [flatV_len hs, hlen]
  have hB := hi.B_le
  have hd := hi.drew
  have noimm : ∀ j, g.imm w.heap.size j = none := fun j => by
    cases e : g.imm w.heap.size j with
    | none => rfl
    | some v => exact absurd (hi.imm_lt e) (Nat.lt_irrefl _)
  have hnew : (w.drew.alloc (.cells (flatV us ++ tail).toArray el)).heap[w.heap.size]? = some (.cells (flatV us ++ tail).toArray el) := alloc_last (w := w.drew)
  have hmul : cap * sz = zs.length * sz + (cap - zs.length) * sz := by rw [← Nat.add_mul]; congr 1; omega
  have hinv := hd.retok (s' := s') (t := t) (n' := zs.length) (sz := sz) (b := w.heap.size) (o := 0) (cap := cap) (fun j => if j < zs.length * sz then (flatV us)[j]? else none)
    (w.drew.alloc (.cells (flatV us ++ tail).toArray el)) hsh hsn htl htn ht hst hg ((Below.refl B w.drew).alloc hB _) (fun k hk _ => getElem?_alloc_lt w.drew _ hk) hB (fun i e => absurd (hi.dom i _ e).2.2 (Nat.lt_irrefl _))
    (fun t1 n1 sz1 v1 _ a b c => absurd (tok_heap (hi.tokok t1 n1 sz1 a) b c) (Nat.lt_irrefl _))
    (fun j v e => by rw [noimm] at e; cases e)
    (fun j v e => by
      split at e
      · rw [cell_of_row _ _ _ _ _ _ hnew]
        rename_i hj
        simp only [List.getElem?_toArray]
        rw [List.getElem?_append_left (by omega)]
        exact e
      · cases e)
    hcap hsz _ el hnew (by simp [hfl, htail]; omega) (fun j a _ => ⟨noimm j, by rw [if_neg (by omega)]⟩)
  have hle : g.le ((g.freeze w.heap.size fun j => if j < zs.length * sz then (flatV us)[j]? else none).setTok t zs.length (.slice (some ⟨w.heap.size, 0, none⟩) zs.length cap)) :=
    G.le_freeze.trans (G.le_setTok (g := g.freeze w.heap.size _) (hg _ (Nat.le_refl _)))
  refine ⟨_, ⟨hle, fun i _ => rfl⟩, hinv, .list w.heap.size 0 cap sz us hlen hcap (r.mono hle).2 hcl ⟨hsz, fun i v hv => ?_⟩ (by simp [TkOk, G.setTok])⟩
  have hvs : v.cells.size = sz := hs v (List.mem_of_getElem? hv)
  refine ⟨hvs, fun j c hc => ?_⟩
  have hj : j < sz := by rw [← hvs]; exact (Array.getElem?_eq_some_iff.1 hc).1
  have hi' : i < us.length := (List.getElem?_eq_some_iff.1 hv).1
  have hlt : i * sz + j < zs.length * sz := by
    have : i * sz + sz ≤ us.length * sz := by rw [← Nat.succ_mul]; exact Nat.mul_le_mul_right sz hi'
    rw [← hlen]; omega
  simp only [G.setTok, G.freeze, noimm, if_true, Nat.zero_add, hlt]
  exact flatV_get hs hv hc

theorem mid_get {cur new : List Value} {k : Nat} (h : k + new.length ≤ cur.length) (j : Nat) :
    (cur.take k ++ new ++ cur.drop (k + new.length))[j]? = if k ≤ j ∧ j < k + new.length then new[j - k]? else cur[j]? := by
  have h1 : (cur.take k).length = k := by simp; omega
  by_cases a : j < k
  · rw [List.append_assoc, List.getElem?_append_left (by omega), List.getElem?_take, if_pos a, if_neg (by omega)]
  · by_cases b : j < k + new.length
    · rw [List.getElem?_append_left (by simp; omega), List.getElem?_append_right (by omega), h1, if_pos ⟨by omega, b⟩]
    · rw [List.getElem?_append_right (by simp; omega), if_neg (by omega), List.getElem?_drop]
      congr 1
      simp; omega

/-- A list that goes on in its token's own block. -/
theorem inPlaceTok (hi : Inv g B w0 s w) {t n sz b o cap : Nat} {xs ys : List D} {vs us : List Value} (htk : s.tok t = some (n, sz)) (hgt : g.tok t n = some (.slice (some ⟨b, o, none⟩) n cap)) (hxn : xs.length = n)
    (rx : RepL g xs vs) (hrow : Row g b o sz vs) (ry : RepL g ys us) (hcx : D.clL 0 xs = true) (hcy : D.clL 0 ys = true) (hs : ∀ x ∈ us, x.cells.size = sz) (h1 : ∀ c ∈ flatV us, c.oneCell' = true)
    (hpos : 0 < ys.length) (hroom : n + ys.length ≤ cap) :
    ∃ w', (storeCells ⟨b, o + n * sz, none⟩ (flatV us)).run P w = .ok () w' ∧ ∃ g', Ext s.hn g g' ∧ Inv g' B w0 (s.setTok t (n + ys.length) sz) w' ∧
      Rep g' (.list (xs ++ ys) (.tok t)) (.slice (some ⟨b, o, none⟩) (n + ys.length) cap) := by
  obtain ⟨b', o', cap', e1, e2, e3, e4, cs, el, e5, e6, e7⟩ := hi.tokok t n sz htk
  rw [hgt] at e1
  cases e1
  have hulen : us.length = ys.length := ry.1
  have hfl : (flatV us).length = ys.length * sz := by rw [flatV_len hs, hulen]
  have hmul : (n + ys.length) * sz ≤ cap * sz := Nat.mul_le_mul_right sz hroom
  rw [Nat.add_mul] at hmul
  have hfit : o + n * sz + (flatV us).length ≤ cs.toList.length := by simp; omega
  have hst := run_storeCells_at P b (o + n * sz) el (flatV us) 0 cs w e5 (by simpa using hfit) h1
  simp only [Nat.add_zero] at hst
  have hw' := setRow_heap w b cs (cs.toList.take (o + n * sz) ++ flatV us ++ cs.toList.drop (o + n * sz + (flatV us).length)).toArray el _ e5
  have hcell : ∀ j, (w.setRow b (cs.toList.take (o + n * sz) ++ flatV us ++ cs.toList.drop (o + n * sz + (flatV us).length)).toArray).cell? ⟨b, j, none⟩ = if o + n * sz ≤ j ∧ j < o + n * sz + (flatV us).length then (flatV us)[j - (o + n * sz)]? else cs[j]? := fun j => by
    rw [cell_of_row _ _ _ _ _ _ hw', List.getElem?_toArray, mid_get hfit]
    simp
  have hB := (hi.tokblk t n sz _ b htk hgt rfl)
  have tlt : t < s.tn := hi.tokdom t n _ hgt
  refine ⟨_, hst, ?_⟩
  have hinv := hi.retok (s' := s.setTok t (n + ys.length) sz) (t := t) (n' := n + ys.length) (sz := sz) (b := b) (o := o) (cap := cap)
    (fun j => if o + n * sz ≤ j ∧ j < o + n * sz + (flatV us).length then (flatV us)[j - (o + n * sz)]? else none)
    (w.setRow b (cs.toList.take (o + n * sz) ++ flatV us ++ cs.toList.drop (o + n * sz + (flatV us).length)).toArray)
    rfl rfl (by simp [St.setTok, setR_length, hi.tl]) (Nat.le_refl _) tlt
    (fun t' => by
      simp only [St.tok, St.setTok]
      rw [getR_setR _ _ _ _ _ hi.tl]
      by_cases ht' : t' = t
      · simp [ht', tlt]
      · simp [ht'])
    (fun m hm => e4 m (by omega)) ⟨rfl, rfl, rfl, by simp [World.setRow], fun k hk => setRow_other _ _ _ _ (by omega)⟩ (fun k _ hk => setRow_other _ _ _ _ hk) hB.1 hB.2.1
    (fun t1 n1 sz1 v1 hne a c d => hne (hB.2.2 t1 n1 sz1 v1 a c d))
    (fun j v hv => by
      rw [hcell]
      have hc : cs[j]? = some v := by rw [← cell_of_row _ _ _ _ _ _ e5]; exact hi.imm b j v hv
      rw [if_neg (fun hh => by
        have := e7 j hh.1 (by omega)
        rw [this] at hv; cases hv)]
      exact hc)
    (fun j v hv => by
      rw [hcell]
      split at hv
      · rename_i hh; rw [if_pos hh]; exact hv
      · cases hv)
    hroom e3 _ el hw' (by simp; omega)
    (fun j a c => ⟨e7 j (by rw [Nat.add_mul] at a; omega) c, by rw [Nat.add_mul] at a; rw [if_neg (by omega)]⟩)
  have hle : g.le ((g.freeze b fun j => if o + n * sz ≤ j ∧ j < o + n * sz + (flatV us).length then (flatV us)[j - (o + n * sz)]? else none).setTok t (n + ys.length) (.slice (some ⟨b, o, none⟩) (n + ys.length) cap)) :=
    G.le_freeze.trans (G.le_setTok (g := g.freeze b _) (e4 _ (by omega)))
  refine ⟨_, ⟨hle, fun i _ => rfl⟩, hinv, ?_⟩
  have hl : (xs ++ ys).length = n + ys.length := by simp [hxn]
  have hvl : vs.length = n := by rw [rx.1, hxn]
  suffices hR : Rep ((g.freeze b fun j => if o + n * sz ≤ j ∧ j < o + n * sz + (flatV us).length then (flatV us)[j - (o + n * sz)]? else none).setTok t (n + ys.length) (.slice (some ⟨b, o, none⟩) (n + ys.length) cap))
      (.list (xs ++ ys) (.tok t)) (.slice (some ⟨b, o, none⟩) (xs ++ ys).length cap) by rw [hl] at hR; exact hR
  refine .list b o cap sz (vs ++ us) (by simp [rx.1, ry.1]) (by omega) ((rx.append ry).mono hle).2 (clL_of fun d hd => ?_) ⟨e3, fun i v hv => ?_⟩ (by simp [TkOk, G.setTok, hl])
  · rcases List.mem_append.1 hd with h | h
    · obtain ⟨i, hh⟩ := List.mem_iff_getElem?.1 h; exact clL_get hcx hh
    · obtain ⟨i, hh⟩ := List.mem_iff_getElem?.1 h; exact clL_get hcy hh
  · rw [List.getElem?_append] at hv
    split at hv
    · obtain ⟨p, q⟩ := hrow.2 i v hv
      exact ⟨p, fun j c hc => hle.imm _ _ _ (q j c hc)⟩
    · rename_i hni
      have hvs : v.cells.size = sz := hs v (List.mem_of_getElem? hv)
      refine ⟨hvs, fun j c hc => ?_⟩
      have hj : j < sz := by rw [← hvs]; exact (Array.getElem?_eq_some_iff.1 hc).1
      have hiu : i - vs.length < us.length := (List.getElem?_eq_some_iff.1 hv).1
      have key := flatV_get hs hv hc
      have hin : i * sz = n * sz + (i - vs.length) * sz := by rw [← Nat.add_mul]; congr 1; omega
      have hb2 : (i - vs.length) * sz + sz ≤ us.length * sz := by rw [← Nat.succ_mul]; exact Nat.mul_le_mul_right sz hiu
      rw [hulen] at hb2
      have hnone := e7 (o + i * sz + j) (by omega) (by omega)
      simp only [G.setTok, G.freeze, hnone, if_true]
      rw [if_pos ⟨by omega, by omega⟩, show o + i * sz + j - (o + n * sz) = (i - vs.length) * sz + j from by omega]
      exact key

theorem cl_norm_all {ys : List D} (h : ys.all (fun y => (norm y).cl 0 && y.cells.all (·.single)) = true) : D.clL 0 (ys.map norm) = true ∧ (ys.flatMap D.cells).all (·.single) = true := by
  simp only [List.all_eq_true, Bool.and_eq_true] at h
  refine ⟨clL_of fun d hd => ?_, ?_⟩
  · obtain ⟨y, hy, rfl⟩ := List.mem_map.1 hd
    exact (h y hy).1
  · simp only [List.all_eq_true, List.mem_flatMap]
    rintro x ⟨y, hy, hx⟩
    exact (h y hy).2 x hx

theorem does_append (hi : Inv g B w0 s w) {t u ty el : TypeId} {sz bytes : Nat} {z : Value} {d dr : D} {v vx : Value} {ys : List D} {us : List Value} {s' : St}
    (hu : P.underlying t = some (.slice el)) (hn : tSize P el = some sz) (hb : tBytes P el = some bytes) (hz : tZero P el = some z) (h0 : sz ≠ 0) (hb0 : bytes ≠ 0) (hzs : z.cells.size = sz)
    (hx : AppX P w u z vx us) (ry : RepL g ys us) (hs : ∀ x ∈ us, x.cells.size = sz) (hall : ys.all (fun y => (norm y).cl 0 && y.cells.all (·.single)) = true)
    (rd : Rep g d v) (h : appendD s sz bytes d ys = some (dr, s')) : Does P (Builtin.append_ #[t, u] ty #[v, vx]) g B w0 s s' w dr := by
  obtain ⟨hcy, hsy⟩ := cl_norm_all hall
  have hulen : us.length = ys.length := ry.1
  have h1 : ∀ c ∈ flatV us, c.oneCell' = true := fun c hc => List.all_eq_true.1 ((flatMap_rep ry hsy).oneCell hsy) c hc
  have ryn : RepL g (ys.map norm) us := ry.map norm fun d v r => r.norm
  -- a new block
  have grow : ∀ {xs : List D} {vs : List Value} {base : Option Addr} {sCap t0 : Nat} {s1 : St}, v = .slice base xs.length sCap → RepL g xs vs → D.clL 0 xs = true → (∀ x ∈ vs, x.cells.size = sz) →
      (∀ w' : World, (∀ b o c, w.cell? ⟨b, o, none⟩ = some c → w'.cell? ⟨b, o, none⟩ = some c) → (Builtin.firstCells sz xs.length (.slice base xs.length sCap)).run P w' = .ok (flatV vs).toArray w') →
      sCap < xs.length + ys.length → (xs.length + ys.length) * bytes ≤ cap40 → xs.length + ys.length ≤ 9223372036854775807 → s1.heap = s.heap → s1.hn = s.hn → s1.toks.length = s1.tn → s.tn ≤ s1.tn → t0 < s1.tn →
      (∀ t', s1.tok t' = if t' = t0 then some ((xs ++ ys.map norm).length, sz) else s.tok t') → (∀ m, (xs ++ ys.map norm).length ≤ m → g.tok t0 m = none) →
      Does P (Builtin.append_ #[t, u] ty #[v, vx]) g B w0 s s1 w (.list (xs ++ ys.map norm) (.tok t0)) := by
    intro xs vs base sCap t0 s1 hv rx hcx hsx hfc hg hbytes h63 a1 a2 a3 a4 a5 a6 a7
    subst hv
    have hvl : vs.length = xs.length := rx.1
    have hrun := run_app_grow (P := P) (w := w) (ty := ty) hu hn hb hz h0 hzs hx hs (by rw [hulen]; have : ys.length * bytes ≤ (xs.length + ys.length) * bytes := Nat.mul_le_mul_right _ (by omega); simp only [cap40] at hbytes; omega) hfc
      (by rw [hulen]; exact hg) (by rw [hulen]; simp only [cap40] at hbytes; omega) (by rw [hulen]; exact h63)
    have hlen : (xs ++ ys.map norm).length = xs.length + us.length := by simp [hulen]
    have hge := grownCap_ge w (xs.length + us.length) sCap el
    obtain ⟨g', k1, k2, k3⟩ := growTok (el := el) (sz := sz) (cap := grownCap w (xs.length + us.length) sCap el) (tail := flatV (List.replicate (grownCap w (xs.length + us.length) sCap el - (xs.length + us.length)) z)) hi a1 a2 a3 a4 a5 a6 a7 (rx.append ryn)
      (clL_of fun d hd => by
        rcases List.mem_append.1 hd with h | h
        · obtain ⟨i, hh⟩ := List.mem_iff_getElem?.1 h; exact clL_get hcx hh
        · obtain ⟨i, hh⟩ := List.mem_iff_getElem?.1 h; exact clL_get hcy hh)
      (fun x hxm => by
        rcases List.mem_append.1 hxm with h | h
        · exact hsx x h
        · exact hs x h) (by omega)
      (by rw [flatV_len (sz := sz) (fun v hv => by rw [(List.mem_replicate.1 hv).2]; exact hzs), hlen]; simp) (by rw [hlen]; exact hge)
    refine ⟨_, _, g', hrun, k1, ?_, ?_⟩
    · have e : flatV vs ++ flatV us = flatV (vs ++ us) := by simp [flatV]
      rw [e]; exact k2
    · rw [hlen] at k3; exact k3
  have small : ∀ n, n * bytes ≤ cap40 → n ≤ 9223372036854775807 := fun n h => by
    have : n * 1 ≤ n * bytes := Nat.mul_le_mul_left n (by omega)
    simp only [cap40] at h
    omega
  have nop0 : us = [] → (Builtin.append_ #[t, u] ty #[.slice none 0 0, vx]).run P w = .ok (.slice none 0 0) w := fun hus =>
    run_app_nil (P := P) hu hn hb hz h0 hzs hx hs (by rw [hus]; simp) hus
  have nop1 : us = [] → ∀ (b o n cap : Nat), n ≤ cap → (Builtin.append_ #[t, u] ty #[.slice (some ⟨b, o, none⟩) n cap, vx]).run P w = .ok (.slice (some ⟨b, o, none⟩) n cap) w := fun hus b o n cap hle => by
    subst hus
    have := run_app_fit (P := P) (w := w) (ty := ty) (b := b) (o := o) (sLen := n) (sCap := cap) hu hn hb hz h0 hzs hx hs (by simp) (by simpa using hle) (w' := w) (by simp [flatV, storeCells])
    simpa using this
  have hem : ys.isEmpty = true → us = [] := fun h => by
    have : ys.length = 0 := by simpa using h
    exact List.eq_nil_of_length_eq_zero (by omega)
  have hne : ys.isEmpty = false → 0 < ys.length := fun h => by
    cases ys with
    | nil => cases h
    | cons _ _ => simp
  have row_sz : ∀ {b o sz' : Nat} {vs : List Value}, Row g b o sz' vs → (∀ x ∈ vs, x.cells.size = sz) → Row g b o sz vs := fun {b o sz' vs} hr hs' => ⟨by omega, fun i x e => by
    have h1 := hr.2 i x e
    have h2 := hs' x (List.mem_of_getElem? e)
    have : sz' = sz := by rw [← h1.1, h2]
    subst this
    exact h1⟩
  have fc0 : ∀ (w' : World), (∀ b o c, w.cell? ⟨b, o, none⟩ = some c → w'.cell? ⟨b, o, none⟩ = some c) → (Builtin.firstCells sz ([] : List D).length (.slice none ([] : List D).length 0)).run P w' = .ok (flatV []).toArray w' := fun w' _ => by
    simp [Builtin.firstCells, flatV]
  have fc1 : ∀ {b o : Nat} {xs : List D} {vs : List Value} (cap : Nat), vs.length = xs.length → Row g b o sz vs → (∀ x ∈ vs, x.cells.size = sz) → ∀ (w' : World), (∀ b o c, w.cell? ⟨b, o, none⟩ = some c → w'.cell? ⟨b, o, none⟩ = some c) →
      (Builtin.firstCells sz xs.length (.slice (some ⟨b, o, none⟩) xs.length cap)).run P w' = .ok (flatV vs).toArray w' := fun {b o xs vs} cap hl hr hs' w' hw => by
    have := run_cells_row (P := P) (w' := w') (b := b) (o := o) hs' (fun i x e j c k => hw _ _ _ (hi.imm _ _ _ ((hr.2 i x e).2 j c k)))
    rw [hl] at this
    simpa [Builtin.firstCells] using this
  have pushT : ∀ (n : Nat) (t' : Nat), (s.pushTok n sz).tok t' = if t' = s.tn then some (n, sz) else s.tok t' := fun n t' => by simp only [St.tok, St.pushTok, getR_cons]
  unfold appendD at h
  dsimp only at h
  split at h
  · cases rd
    split at h
    · rename_i he
      cases h
      exact Does.of hi (nop0 (hem he)) (.v _)
    · rename_i he
      split at h
      · rename_i hby
        cases h
        have hpos := hne (by simpa using he)
        exact grow (xs := []) (vs := []) (base := none) (sCap := 0) (t0 := s.tn) (s1 := s.pushTok _ sz) rfl .nil rfl (fun x hx => by cases hx) fc0 (by simpa using hpos) (by simpa using hby) (small _ (by simpa using hby)) rfl rfl (by simp [St.pushTok, hi.tl]) (by simp [St.pushTok]) (by simp [St.pushTok]) (pushT _) (fun m _ => hi.tok_ge (Nat.le_refl _))
      · cases h
  · rename_i xs tk
    split at h
    · rename_i he
      cases h
      cases rd with
      | list b o cap sz' vs hl hcap hx' hc hr ht => exact Does.of hi (nop1 (hem he) _ _ _ _ hcap) (.list b o cap sz' vs hl hcap hx' hc hr ht)
    · rename_i he
      have hpos := hne (by simpa using he)
      split at h
      · cases h
      · rename_i hszx
        have hszx : szOf xs sz = true := by simpa using hszx
        split at h
        · split at h
          · rename_i hby
            cases h
            cases rd with
            | list b o cap sz' vs hl hcap hx' hc hr ht =>
              have hsx := row_all (⟨hl, hx'⟩ : RepL g xs vs) hr hszx
              have hcap' : cap = xs.length := ht
              exact grow (xs := xs) (vs := vs) (sCap := cap) (t0 := s.tn) (s1 := s.pushTok _ sz) rfl ⟨hl, hx'⟩ hc hsx (fc1 cap hl (row_sz hr hsx) hsx) (by omega) (by simpa using hby) (small _ (by simpa using hby)) rfl rfl (by simp [St.pushTok, hi.tl]) (by simp [St.pushTok]) (by simp [St.pushTok]) (pushT _) (fun m _ => hi.tok_ge (Nat.le_refl _))
          · cases h
        · rename_i t0
          split at h
          · rename_i n sz0 htk
            split at h
            · rename_i hc4
              obtain ⟨rfl, rfl, _, hby⟩ := hc4
              cases h
              cases rd with
              | list b o cap sz' vs hl hcap hx' hc hr ht =>
                have hsx := row_all (⟨hl, hx'⟩ : RepL g xs vs) hr hszx
                have hr' := row_sz hr hsx
                have hgt : g.tok t0 xs.length = some (.slice (some ⟨b, o, none⟩) xs.length cap) := ht
                by_cases hroom : xs.length + ys.length ≤ cap
                · obtain ⟨w', k1, g', k2, k3, k4⟩ := inPlaceTok (P := P) hi htk hgt rfl ⟨hl, hx'⟩ hr' ryn hc hcy hs h1 (by simpa using hpos) (by simpa using hroom)
                  simp only [List.length_map] at k3 k4
                  refine ⟨_, w', g', ?_, k2, k3, k4⟩
                  have := run_app_fit (P := P) (w := w) (ty := ty) (b := b) (o := o) (sLen := xs.length) (sCap := cap) hu hn hb hz h0 hzs hx hs (by rw [hulen]; have : ys.length * bytes ≤ (xs.length + ys.length) * bytes := Nat.mul_le_mul_right _ (by omega); simp only [cap40] at hby; omega) (by rw [hulen]; exact hroom) k1
                  rw [hulen] at this
                  exact this
                · have e4 : ∀ m, xs.length < m → g.tok t0 m = none := by
                    obtain ⟨b', o', cap', e1, e2, e3, e4, _⟩ := hi.tokok t0 xs.length sz0 htk
                    exact e4
                  have tlt : t0 < s.tn := hi.tokdom t0 _ _ hgt
                  exact grow (xs := xs) (vs := vs) (sCap := cap) (t0 := t0) (s1 := s.setTok t0 (xs.length + ys.length) sz0) rfl ⟨hl, hx'⟩ hc hsx (fc1 cap hl hr' hsx) (by omega) hby (small _ hby) rfl rfl (by simp [St.setTok, setR_length, hi.tl]) (Nat.le_refl _) tlt (fun t' => by
                      simp only [St.tok, St.setTok, List.length_append, List.length_map]
                      rw [getR_setR _ _ _ _ _ hi.tl]
                      by_cases ht' : t' = t0
                      · simp [ht', tlt]
                      · simp [ht']) (fun m hm => e4 m (by simp at hm; omega))
            · cases h
          · cases h
        · cases h
  · rename_i id off len sz1
    split at h
    · rename_i he
      cases h
      cases rd with
      | arr b cap hb hcap hsz0 hfl => exact Does.of hi (nop1 (hem he) _ _ _ _ hcap) (.arr b cap hb hcap hsz0 hfl)
    · rename_i he
      have hpos := hne (by simpa using he)
      split at h
      · split at h
        · rename_i xs hel
          split at h
          · rename_i hck
            split at h
            · rename_i hby
              cases h
              obtain ⟨vs, rx, hea⟩ := elems_rep hi hel rd
              simp only [Bool.and_eq_true] at hck
              have hsx := szOf_all rx hea hck.1
              obtain ⟨hcx, _⟩ := cl_norm_all hck.2
              have hxl : xs.length = len := by
                simp only [elems] at hel
                split at hel
                · split at hel
                  · cases hel; exact group_length _ _ _ _
                  · cases hel
                · cases hel
              cases rd with
              | arr b cap hb hcap hsz0 hfl =>
                have hcap' : cap = len := hfl rfl
                have hml : (xs.map norm).length = len := by rw [List.length_map, hxl]
                have hvl : vs.length = len := by rw [rx.1, hxl]
                refine grow (xs := xs.map norm) (vs := vs) (base := some ⟨b, off, none⟩) (sCap := cap) (t0 := s.tn) (s1 := s.pushTok _ sz) (by rw [hml]) (rx.map norm fun d v r => r.norm) hcx hsx (fun w' hw => ?_) (by omega) (by simpa using hby) (small _ (by simpa using hby)) rfl rfl (by simp [St.pushTok, hi.tl]) (by simp [St.pushTok]) (by simp [St.pushTok]) (pushT _) (fun m _ => hi.tok_ge (Nat.le_refl _))
                have key := firstCells_elems (P := P) hea hsx (Nat.le_refl _) hw
                rw [List.take_length, hvl] at key
                rw [hml]
                exact key
            · cases h
          · cases h
        · cases h
      · cases h
  · cases h

end
end Go.Fk

/- Soundness of the operations, fifteenth part: all turning operations together. -/
namespace Go.Fk
open Go.RowKit (Below)
section
variable {P : Program} {g : G} {B : Nat} {w0 : Base} {s : St} {w : World}

theorem two_args {args : Array Operand} {x y : Opd} (h : cOpds args.toList = some [x, y]) : ∃ p q, args = #[p, q] ∧ cOpd p = some x ∧ cOpd q = some y := by
  cases hl : args.toList with
  | nil => rw [hl] at h; cases h
  | cons p r =>
    rw [hl] at h
    simp only [cOpds] at h
    split at h
    · rename_i h1 h2
      cases h
      cases r with
      | nil => cases h2
      | cons q r =>
        simp only [cOpds] at h2
        split at h2
        · rename_i h3 h4
          cases h2
          cases r with
          | nil => exact ⟨p, q, by apply Array.ext'; simpa using hl, h1, h3⟩
          | cons z r => simp only [cOpds] at h4; split at h4 <;> cases h4
        · cases h2
    · cases h
theorem one_arg {args : Array Operand} {x : Opd} (h : cOpds args.toList = some [x]) : ∃ p, args = #[p] ∧ cOpd p = some x := by
  cases hl : args.toList with
  | nil => rw [hl] at h; cases h
  | cons p r =>
    rw [hl] at h
    simp only [cOpds] at h
    split at h
    · rename_i h1 h2
      cases h
      cases r with
      | nil => exact ⟨p, by apply Array.ext'; simpa using hl, h1⟩
      | cons z r => simp only [cOpds] at h2; split at h2 <;> cases h2
    · cases h

theorem AppX.replicate {z : Value} {n : Nat} (hz : constV z = true) : RepL g (List.replicate n (zval z)) (List.replicate n z) := by
  induction n with
  | zero => exact .nil
  | succ n ih => exact .cons (Rep.zval hz) ih

theorem evM_sound (hi : Inv g B w0 s w) {e : Env} {a : Act} (he : EnvRep g e a.tmps) {mt : Bool} {o : Oper} {op : IOp} {d : D} {s' : St} {call : D → List D → St → Option (D × St)}
    (hop : cOp P mt o.op = some op) (hnc : ∀ f args, op ≠ .call f args) (h : evM e s call op = some (d, s')) : DoesN P (execOp a.eval o) g B w0 s s' w d := by
  obtain ⟨dst, o, ty, pos, after, guard⟩ := o
  simp only at hop
  cases o
  case alloc t =>
    simp only [cOp, Option.map_eq_some_iff] at hop
    obtain ⟨z, hz, rfl⟩ := hop
    simp only [evM] at h
    cases h
    have := (does_alloc (P := P) hi hz).next
    simpa [execOp] using this
  case box t x =>
    simp only [cOp, Option.map_eq_some_iff] at hop
    obtain ⟨x', hx, rfl⟩ := hop
    simp only [evM] at h
    split at h
    · rename_i hs
      cases h
      have := (does_box (P := P) (t := t) hi (cOpd_rep he hx) hs).next
      simpa [execOp] using this
    · cases h
  case store t x y =>
    simp only [cOp] at hop
    split at hop
    · rename_i n x' y' h1 h2 h3
      cases hop
      simp only [evM] at h
      split at h
      · rename_i id off ha
        split at h
        · rename_i ds hg
          split at h
          · rename_i hc
            split at h
            · rename_i ds' hp
              split at h
              · rename_i s1 hw
                cases h
                have rx := cOpd_rep he h2
                rw [ha] at rx
                have := (does_store (P := P) hi h1 rx (cOpd_rep he h3) hg hc.1 hc.2 hp hw).next (s := s)
                simpa [execOp] using this
              · cases h
            · cases h
          · cases h
        · cases h
      · cases h
    · cases hop
  case makeMap t r =>
    simp only [cOp] at hop
    split at hop
    · rename_i k el hu
      split at hop
      · cases hop
        cases h
        have := (does_mkmap (P := P) hi hu (r := none) (.inl rfl)).next
        simpa [execOp] using this
      · rename_i kk n
        cases hop
        cases h
        have := (does_mkmap (P := P) hi hu (r := some (.int kk n)) (.inr ⟨kk, n, rfl⟩)).next
        simpa [execOp, Act.eval] using this
      · cases hop
    · cases hop
  case makeSlice t l c =>
    simp only [cOp] at hop
    split at hop
    · rename_i el hu
      split at hop
      · rename_i sz by_ z l' c' h1 h2 h3 h4 h5
        split at hop
        · cases hop
        · rename_i hcond
          cases hop
          simp only [evM] at h
          split at h
          · rename_i li ci hl hc
            obtain ⟨kl, el1⟩ := int?_rep hl (cOpd_rep he h4)
            obtain ⟨kc, ec1⟩ := int?_rep hc (cOpd_rep he h5)
            have hz : z.cells.size = sz := by
              rcases Nat.decEq z.cells.size sz with hh | hh
              · exact absurd (.inr hh) hcond
              · exact hh
            have := (does_mkslice (P := P) (kl := kl) (kc := kc) hi hu h1 h2 h3 (fun hh => hcond (.inl hh)) hz h).next
            simpa [execOp, el1, ec1] using this
          · cases h
      · cases hop
    · cases hop
  case mapUpdate t m k x =>
    simp only [cOp] at hop
    split at hop
    · rename_i kt el hu
      split at hop
      · rename_i kk m' k' x' h1 h2 h3 h4
        cases hop
        simp only [evM] at h
        split at h
        · cases h
        · rename_i hkey
          split at h
          · rename_i id hm
            split at h
            · rename_i es hg
              split at h
              · rename_i r hf
                split at h
                · rename_i s1 hw
                  cases h
                  have rm := cOpd_rep he h2
                  rw [hm] at rm
                  have := (does_mupd (P := P) hi hu h1 rm (cOpd_rep he h3).norm (cOpd_rep he h4).norm (by simpa using hkey) hg hf hw).next (s := s)
                  simpa [execOp] using this
                · cases h
              · cases h
            · cases h
          · cases h
      · cases hop
    · cases hop
  case range t x =>
    simp only [cOp] at hop
    split at hop
    · rename_i hu
      simp only [Option.map_eq_some_iff] at hop
      obtain ⟨x', hx, rfl⟩ := hop
      simp only [evM] at h
      split at h
      · rename_i b hb
        cases h
        have rx := cOpd_rep he hx
        rw [hb] at rx
        generalize hva : a.eval x = va at rx
        cases rx
        have := (does_range (P := P) (b := b) hi hu).next
        simpa [execOp, hva] using this
      · cases h
    · cases hop
  case next x b =>
    simp only [cOp] at hop
    split at hop
    · rename_i hb
      subst hb
      simp only [Option.map_eq_some_iff] at hop
      obtain ⟨x', hx, rfl⟩ := hop
      simp only [evM] at h
      split at h
      · rename_i id hid
        split at h
        · rename_i bb pos' hg
          have rx := cOpd_rep he hx
          rw [hid] at rx
          have := (does_next (P := P) (ty := ty) hi rx hg h).next
          simpa [execOp] using this
        · cases h
      · cases h
    · cases hop
  case call c =>
    obtain ⟨callee, args, ats⟩ := c
    simp only [cOp, cCall] at hop
    cases callee with
    | value f =>
      simp only at hop
      split at hop
      · cases hop; exact absurd rfl (hnc _ _)
      · cases hop
    | invoke r m => cases hop
    | builtin b =>
      simp only at hop
      split at hop
      · cases hop
      · rename_i args' hargs
        split at hop
        · split at hop <;> cases hop <;> simp [evM] at h
        · -- append
          rename_i x y t u hats
          obtain ⟨p, q, rfl, hp, hq⟩ := two_args hargs
          have et : ats = #[t, u] := by apply Array.ext'; simpa using hats
          subst et
          split at hop
          · rename_i el du hu hu2
            split at hop
            · rename_i sz by_ z h1 h2 h3
              split at hop
              · cases hop
              · rename_i hcond
                have hsz0 : sz ≠ 0 := fun hh => hcond (.inl hh)
                have hb0 : by_ ≠ 0 := fun hh => hcond (.inr (.inl hh))
                have hzs : z.cells.size = sz := by
                  rcases Nat.decEq z.cells.size sz with hh | hh
                  · exact absurd (.inr (.inr hh)) hcond
                  · exact hh
                have fin : ∀ (ys : List D) (us : List Value), AppX P w u z (a.eval q) us → RepL g ys us → (szOf ys sz = true → ∀ x ∈ us, x.cells.size = sz) →
                    (if mt = true then none else if (ys.all (fun y => (norm y).cl 0 && y.cells.all (·.single)) && szOf ys sz) = true then appendD s sz by_ (x.ev e) ys else none) = some (d, s') →
                    DoesN P (execOp a.eval ⟨dst, .call ⟨.builtin .append, #[p, q], #[t, u]⟩, ty, pos, after, guard⟩) g B w0 s s' w d := fun ys us hx ry hs hh => by
                  split at hh
                  · cases hh
                  · split at hh
                    · rename_i hall
                      simp only [Bool.and_eq_true] at hall
                      have := (does_append (P := P) (ty := ty) hi hu h1 h2 h3 hsz0 hb0 hzs hx ry (hs hall.2) (by simpa using hall.1) (cOpd_rep he hp) hh).next
                      simpa [execOp, resolve, invoke, builtin] using this
                    · cases hh
                split at hop
                · rename_i k
                  cases hop
                  simp only [evM] at h
                  split at h
                  · cases h
                  · rename_i ys hys
                    split at hys
                    · rename_i n hn
                      split at hys
                      · rename_i hc
                        cases hys
                        obtain ⟨kk, eq⟩ := int?_rep hn (cOpd_rep he hq)
                        refine fin _ _ (.inr ⟨k, kk, n.toNat, hu2, by rw [eq, Int.toNat_of_nonneg hc.1], by have := hc.2; simp only [cap40] at *; omega, rfl⟩) (AppX.replicate (tZero_spec h3).1) (fun _ x hx => by rw [(List.mem_replicate.1 hx).2]; exact hzs) h
                      · cases hys
                    · cases hys
                · rename_i hni
                  cases hop
                  simp only [evM] at h
                  split at h
                  · cases h
                  · rename_i ys hys
                    obtain ⟨us, r, hel⟩ := elems_rep hi hys (cOpd_rep he hq)
                    exact fin _ _ (.inl ⟨du, hu2, fun k hk => hni k (by rw [hk]), hel⟩) r (szOf_all r hel) h
            · cases hop
          · cases hop
        · -- copy
          rename_i x y t u hats
          obtain ⟨p, q, rfl, hp, hq⟩ := two_args hargs
          have et : ats = #[t, u] := by apply Array.ext'; simpa using hats
          subst et
          split at hop
          · rename_i el hu
            split at hop
            · rename_i sz h1
              split at hop
              · cases hop
              · cases hop
                simp only [evM] at h
                split at h
                · rename_i id off len sz' fl hx
                  split at h
                  · rename_i ds ys hg hys
                    split at h
                    · cases h
                    · rename_i hc
                      have hc1 : szOf ys sz = true := by
                        cases hh : szOf ys sz with
                        | true => rfl
                        | false => exact absurd (.inl hh) hc
                      have hc2 : ((ys.take (Nat.min ys.length len)).flatMap D.cells).all (·.single) = true := by
                        cases hh : ((ys.take (Nat.min ys.length len)).flatMap D.cells).all (·.single) with
                        | true => rfl
                        | false => exact absurd (.inr hh) hc
                      split at h
                      · rename_i ds' hput
                        split at h
                        · rename_i s1 hw
                          cases h
                          have rd := cOpd_rep he hp
                          rw [hx] at rd
                          have := (does_copy (P := P) (u := u) (ty := ty) hi hu h1 rd (cOpd_rep he hq) hg hys hc1 hc2 hput hw).next
                          simpa [execOp, resolve, invoke, builtin] using this
                        · cases h
                      · cases h
                  · cases h
                · cases h
            · cases hop
          · cases hop
        · -- delete
          rename_i x y t u hats
          obtain ⟨p, q, rfl, hp, hq⟩ := two_args hargs
          have et : ats = #[t, u] := by apply Array.ext'; simpa using hats
          subst et
          split at hop
          · rename_i kt el hu
            simp only [Option.map_eq_some_iff] at hop
            obtain ⟨kk, hk, rfl⟩ := hop
            simp only [evM] at h
            split at h
            · cases h
            · rename_i hkey
              have hkey : D.isKey kk (norm (y.ev e)) = true := by simpa using hkey
              split at h
              · rename_i hm
                cases h
                have rm := cOpd_rep he hp
                rw [hm] at rm
                generalize hva : a.eval p = va at rm
                cases rm
                have := (does_delete_nil (P := P) (u := u) (ty := ty) hi hu hk (cOpd_rep he hq).norm hkey).next
                simpa [execOp, resolve, invoke, builtin, hva] using this
              · rename_i id hm
                split at h
                · rename_i es hg
                  split at h
                  · rename_i r hf
                    split at h
                    · rename_i s1 hw
                      cases h
                      have rm := cOpd_rep he hp
                      rw [hm] at rm
                      have := (does_delete (P := P) (u := u) (ty := ty) hi hu hk rm (cOpd_rep he hq).norm hkey hg hf hw).next
                      simpa [execOp, resolve, invoke, builtin] using this
                    · cases h
                  · cases h
                · cases h
              · cases h
          · cases hop
        · -- clear
          rename_i x t hats
          obtain ⟨p, rfl, hp⟩ := one_arg hargs
          have et : ats = #[t] := by apply Array.ext'; simpa using hats
          subst et
          split at hop
          · rename_i el hu
            split at hop
            · rename_i sz z h1 h2
              split at hop
              · cases hop
              · cases hop
                simp only [evM] at h
                split at h
                · rename_i id off len sz' fl hx
                  split at h
                  · rename_i ds hg
                    split at h
                    · split at h
                      · rename_i ds' hput
                        split at h
                        · rename_i s1 hw
                          cases h
                          have rd := cOpd_rep he hp
                          rw [hx] at rd
                          have := (does_clear (P := P) (ty := ty) hi hu h2 rd hg hput hw).next
                          simpa [execOp, resolve, invoke, builtin] using this
                        · cases h
                      · cases h
                    · cases h
                  · cases h
                · rename_i tk hx
                  cases h
                  have rd := cOpd_rep he hp
                  rw [hx] at rd
                  have := (does_clear_nil (P := P) (ty := ty) hi hu (vd := a.eval p) (by
                    generalize hva : a.eval p = va at rd
                    cases rd with
                    | list b o cap sz vs hl hcap hx hc hr ht => exact .inr ⟨_, _, rfl⟩)).next
                  simpa [execOp, resolve, invoke, builtin] using this
                · rename_i hx
                  cases h
                  have rd := cOpd_rep he hp
                  rw [hx] at rd
                  have := (does_clear_nil (P := P) (ty := ty) hi hu (vd := a.eval p) (by
                    generalize hva : a.eval p = va at rd
                    cases rd
                    exact .inl rfl)).next
                  simpa [execOp, resolve, invoke, builtin] using this
                · cases h
            · cases hop
          · cases hop
        · cases hop; simp [evM] at h
        · cases hop; simp [evM] at h
        · cases hop
  all_goals (
    simp only [cOp] at hop
    first
      | (cases hop; done)
      | (simp only [Option.map_eq_some_iff] at hop; obtain ⟨z, _, rfl⟩ := hop; simp [evM] at h; done)
      | skip)
  all_goals ((repeat' (split at hop)) <;> first | (cases hop; done) | (cases hop; simp [evM] at h; done) | (simp only [Option.map_eq_some_iff] at hop; obtain ⟨z, _, rfl⟩ := hop; simp [evM] at h; done))

end
end Go.Fk

