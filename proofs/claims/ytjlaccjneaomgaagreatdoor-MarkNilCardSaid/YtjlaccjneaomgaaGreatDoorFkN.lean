/- MarkNil: what the call comes to, in whatever world, on whatever data. -/
import Derived.Test.YtjlaccjneaomgaaGreatDoorFkM
namespace Go.Proofs.YtjlaccjneaomgaaGreatDoor
open Go Go.Fk
open Go.RowKit (Below)
set_option maxRecDepth 100000

theorem col_shape {x : Fk.D} (h : TyD Tryz.prog 2 79 x) : IsCol x := by
  obtain ⟨parts, rfl, hl, hp⟩ := h.struct Tryz.underlying79
  obtain ⟨a, b, c, rfl⟩ := len3 (by simpa using hl)
  obtain ⟨s, rfl, _⟩ := (hp 0 _ _ rfl rfl).string Tryz.underlying9
  obtain ⟨n, rfl, _⟩ := (hp 1 _ _ rfl rfl).int Tryz.underlying3
  obtain ⟨t, rfl⟩ := (hp 2 _ _ rfl rfl).bool Tryz.underlying4
  exact ⟨s, _, _, rfl, rfl, rfl⟩
theorem tab_shape {x : Fk.D} (h : TyD Tryz.prog 4 74 x) : IsTab x := by
  obtain ⟨parts, rfl, hl, hp⟩ := h.struct Tryz.underlying74
  obtain ⟨a, b, c, rfl⟩ := len3 (by simpa using hl)
  obtain ⟨s, rfl, _⟩ := (hp 0 _ _ rfl rfl).string Tryz.underlying9
  have hb := (hp 1 _ _ rfl rfl).slice Tryz.underlying71
  have hc := (hp 2 _ _ rfl rfl).slice Tryz.underlying72
  refine ⟨s, b, c, ?_, hb.imp fun x => col_shape, hc.imp fun _ _ => trivial⟩
  simp only [List.flatMap_cons, List.flatMap_nil, hb.cells, hc.cells]
  rfl
theorem man_shape {x : Fk.D} (h : TyD Tryz.prog 6 30 x) : ∃ v0 v1 L, x = .agg [v0, v1, L] ∧ v0.single = true ∧ v1.single = true ∧ IsSl IsTab L ∧ normC v0 = v0 ∧ normC v1 = v1 := by
  obtain ⟨parts, rfl, hl, hp⟩ := h.struct Tryz.underlying30
  obtain ⟨a, b, c, rfl⟩ := len3 (by simpa using hl)
  obtain ⟨n, rfl, _⟩ := (hp 0 _ _ rfl rfl).int Tryz.underlying3
  obtain ⟨m, rfl, _⟩ := (hp 1 _ _ rfl rfl).int Tryz.underlying3
  have hc := (hp 2 _ _ rfl rfl).slice Tryz.underlying28
  refine ⟨.v (.int .i64 n), .v (.int .i64 m), c, ?_, rfl, rfl, hc.imp fun x => tab_shape, rfl, rfl⟩
  simp only [List.flatMap_cons, List.flatMap_nil, hc.cells]
  rfl

/-- Small's run. -/
theorem small_eval {x : Fk.D} (h : TyD Tryz.prog 6 30 x) : ∃ b, evF pr 61 (.func (.func 15) [] []) [x] .empty = some (.v (.bool b), .empty) := by
  obtain ⟨v0, v1, L, rfl, h0, h1, hL, n0, n1⟩ := man_shape h
  have hn : norm (.agg [v0, v1, L]) = .agg [v0, v1, L] := by simp only [norm, List.map_cons, List.map_nil, n0, n1, hL.normC]
  have hora : pr.ora 15 = none := by kernel_rfl
  have hfn : pr.fn 15 = some ir15 := by kernel_rfl
  have hkd : pr.kind 15 = 0 := by kernel_rfl
  have hpar : ir15.params = 1 := by kernel_rfl
  have hres : ir15.results = [.t p2] := by kernel_rfl
  obtain ⟨x, f', he, hx, hd, b, hb⟩ := small_run (call := evF pr 60) (pure := pr.pure) (e := envOf [.agg [v0, v1, L]] 0 .nil) (st := { St.empty with lim := ⟨0, 0, 0⟩ }) h0 h1 hL rfl rfl (Nat.le_refl _) (Nat.le_refl _)
  subst hx
  refine ⟨b, ?_⟩
  obtain ⟨env, defers, st⟩ := f'
  simp only at hd hb
  subst hd
  have hrun : runFn (evF pr 60) (callD pr (evF pr 60)) pr.pure ir15 [.agg [v0, v1, L]] { St.empty with lim := ⟨0, 0, 0⟩ } = some (.v (.bool b), st) := by
    unfold runFn
    rw [he]
    simp only [runDefers, hres, resAll, resD, hb]
  unfold evF
  simp only [hora, hfn, hkd, hpar, List.nil_append, List.append_nil, List.length_cons, List.length_nil, List.map_nil, List.map_cons, hn, if_true]
  simp only [St.empty] at hrun ⊢
  simp only [hrun]
  rfl

theorem liveO_ok (B : Nat) (w0 : Base) (pu : Bool) : OraOk Tryz.prog B w0 pu 7 liveO :=
  ora_of_calls pu (enters_of Tryz.func7 (by kernel_rfl) rfl) (fun a s r s' h => by unfold liveO at h; split at h <;> cases h; rfl) fun args s r h g w vs _ _ ra => by
    unfold liveO at h
    split at h <;> cases h
    rw [ra.nil_inv]
    exact (live_true w).mono fun e w' ⟨he, hb⟩ => ⟨_, he, fun _ _ => .v _, hb⟩

theorem sym_inv {g : G} {n : Nat} {v : Value} (r : Rep g (.sym n) v) : g.sym n = some v := by cases r; assumption

/-- MarkNil's call. -/
theorem markNil_calls {W : World} {x : Fk.D} {cs : Array Value} (ht : TyD Tryz.prog 6 30 x) (hr : Rep (G1 W fun n => cs[n]?) x (.agg cs)) (t : Int) :
    Calls Tryz.prog 4 #[.agg cs, .int .i64 t] W fun e w' => e = .returned (.bool true) ∧ Below W.heap.size W w' := by
  obtain ⟨b, hb⟩ := small_eval ht
  obtain ⟨v0, v1, L, rfl, h0, h1, hL, _, _⟩ := man_shape ht
  have hr' := hr
  generalize hv : Value.agg cs = v at hr
  cases hr with
  | agg vs hl hx hs =>
    cases hv
    obtain ⟨c0, ws, rfl, r0, q0⟩ := (show RepL _ [v0, v1, L] vs from ⟨hl, hx⟩).cons_inv
    obtain ⟨c1, ws, rfl, r1, q1⟩ := q0.cons_inv
    obtain ⟨c2, ws, rfl, r2, q2⟩ := q1.cons_inv
    have := q2.nil_inv
    subst this
    have o0 := r0.single_val h0
    have o1 := r1.single_val h1
    have o2 := r2.single_val hL.single
    have small : ∀ w, Below W.heap.size W w → Calls Tryz.prog 15 #[.agg #[c0, c1, c2]] w fun e w' => e = .returned (.bool b) ∧ Below w.heap.size w w' := fun w hW => by
      refine (call_data (vs := [.agg #[c0, c1, c2]]) mixed hW _ (good _ _) hb (.cons hr' .nil) (enters_of Tryz.func15 (by kernel_rfl) rfl _ _)).mono ?_
      rintro e w' ⟨v, g, rfl, hrv, _, hbl⟩
      cases hrv
      exact ⟨rfl, hbl⟩
    have ora15 : ∀ pu, OraOk Tryz.prog W.heap.size ⟨W, fun n => #[c0, c1, c2][n]?⟩ pu 15 (smallO b) := fun pu =>
      ora_of_calls pu (enters_of Tryz.func15 (by kernel_rfl) rfl) (fun a s r s' h => by unfold smallO at h; split at h <;> cases h; rfl) fun args s r h g w vs hg hW ra => by
        unfold smallO at h
        split at h <;> cases h
        obtain ⟨v, ws, rfl, ra0, ra1⟩ := ra.cons_inv
        rw [ra1.nil_inv]
        cases ra0 with
        | agg us hl hx hs =>
          obtain ⟨d0, ws, rfl, e0, f0⟩ := (show RepL _ [.sym 0, .sym 1, .sym 2] us from ⟨hl, hx⟩).cons_inv
          obtain ⟨d1, ws, rfl, e1, f1⟩ := f0.cons_inv
          obtain ⟨d2, ws, rfl, e2, f2⟩ := f1.cons_inv
          have := f2.nil_inv
          subst this
          have k0 := sym_inv e0
          have k1 := sym_inv e1
          have k2 := sym_inv e2
          rw [hg] at k0 k1 k2
          cases k0; cases k1; cases k2
          exact (small w hW).mono fun e w' ⟨he, hb⟩ => ⟨_, he, fun _ _ => .v _, hb⟩
    refine call_true (args := [.agg [.sym 0, .sym 1, .sym 2], .v (.int .i64 t)]) (vs := [.agg #[c0, c1, c2], .int .i64 t]) (p := prM b) mixed W (fun n => #[c0, c1, c2][n]?)
      (progOk allFn ⟨ora15 _, liveO_ok _ _ _, ora61 _ _ _, trivial⟩) (run_all b t) (.cons (.agg [c0, c1, c2] rfl (RepL.cons (.sym c0 rfl o0) (.cons (.sym c1 rfl o1) (.cons (.sym c2 rfl o2) .nil))).2 rfl) (.cons (.v _) .nil)) (enters_of Tryz.func4 (by kernel_rfl) rfl _ _)
#print axioms markNil_calls
end Go.Proofs.YtjlaccjneaomgaaGreatDoor
