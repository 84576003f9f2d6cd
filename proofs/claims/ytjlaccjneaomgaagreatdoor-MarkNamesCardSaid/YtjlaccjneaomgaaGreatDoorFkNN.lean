/- MarkNames: what the call comes to, in whatever world that holds the library's variables. -/
import Derived.Test.YtjlaccjneaomgaaGreatDoorFkO
import Derived.Test.YtjlaccjneaomgaaGreatDoorFkZ
import Derived.Test.YtjlaccjneaomgaaGreatDoorFkShelfN
import Derived.Lib.SmallJoins
import Derived.Lib.AppendIntMem
namespace Go.Proofs.YtjlaccjneaomgaaGreatDoor
open Go Go.Fk Go.Lib
open Go.RowKit (Below)
set_option maxRecDepth 100000

/-- What the library's variables hold. -/
structure Vars (W : World) : Prop where
  tab : Lib.TabIs Tryz.prog W "internal/strconv.uint64pow10" .u64 Lib.pow10Tab
  e0 : ∃ te pe, W.cell? ⟨0, 0, none⟩ = some (.iface te pe)
  e1 : ∃ te pe, W.cell? ⟨1, 0, none⟩ = some (.iface te pe)

theorem Vars.later {W w : World} (h : Vars W) (b : Below W.heap.size W w) : Vars w where
  tab := Go.Joins.var_stays (g := 2) (by kernel_rfl) h.tab b (Nat.le_refl _)
  e0 := by
    obtain ⟨te, pe, e⟩ := h.e0
    exact ⟨te, pe, (b.cell (block_lt_of_cell e)).trans e⟩
  e1 := by
    obtain ⟨te, pe, e⟩ := h.e1
    exact ⟨te, pe, (b.cell (block_lt_of_cell e)).trans e⟩

theorem str_inv {g : G} {x : Value} {v : Value} (r : Rep g (.v x) v) : v = x := by cases r; rfl

section
variable {W : World} {σ : Nat → Option Value}
theorem liveN_ok (pu : Bool) : OraOk Tryz.prog W.heap.size ⟨W, σ⟩ pu 7 liveO :=
  ora_of_calls pu (enters_of Tryz.func7 (by kernel_rfl) rfl) (fun a s r s' h => by unfold liveO at h; split at h <;> cases h; rfl) fun args s r h g w vs _ _ ra => by
    unfold liveO at h
    split at h <;> cases h
    rw [ra.nil_inv]
    exact (live_true w).mono fun e w' ⟨he, hb⟩ => ⟨_, he, fun _ _ => .v _, hb⟩
theorem itoa_ok (hV : Vars W) (pu : Bool) : OraOk Tryz.prog W.heap.size ⟨W, σ⟩ pu 29 itoaO :=
  ora_of_calls pu (enters_of Tryz.func29 (by kernel_rfl) rfl) (fun a s r s' h => by
      unfold itoaO at h
      split at h
      · split at h <;> cases h
        rfl
      · cases h) fun args s r h g w vs _ hb ra => by
    unfold itoaO at h
    split at h
    · split at h
      · rename_i n hn
        cases h
        obtain ⟨v, ws, rfl, r0, r1⟩ := ra.cons_inv
        rw [r1.nil_inv, str_inv r0]
        exact (Any.strconv_Itoa Tryz.laysM171 n hn.1 hn.2 w (hV.later hb).tab).mono fun e w' ⟨he, k, os, hw⟩ => ⟨_, he, fun _ _ => .v _, by rw [hw]; exact below_grow _ _ (Nat.le_refl _) k os⟩
      · cases h
    · cases h
theorem trimP_ok (pu : Bool) : OraOk Tryz.prog W.heap.size ⟨W, σ⟩ pu 33 trimPO :=
  ora_of_calls pu (enters_of Tryz.func33 (by kernel_rfl) rfl) (fun a s r s' h => by unfold trimPO at h; split at h <;> cases h; rfl) fun args s r h g w vs _ hb ra => by
    unfold trimPO at h
    split at h
    · cases h
      obtain ⟨v, ws, rfl, r0, r1⟩ := ra.cons_inv
      obtain ⟨u, ws, rfl, r2, r3⟩ := r1.cons_inv
      rw [r3.nil_inv, str_inv r0, str_inv r2]
      exact (Any.strings_TrimPrefix Tryz.lays101 _ _ w).mono fun e w' ⟨he, hw⟩ => ⟨_, he, fun _ _ => .v _, by rw [hw]; exact Below.refl _ _⟩
    · cases h
theorem trimL_ok (pu : Bool) : OraOk Tryz.prog W.heap.size ⟨W, σ⟩ pu 32 trimLO :=
  ora_of_calls pu (enters_of Tryz.func32 (by kernel_rfl) rfl) (fun a s r s' h => by
      unfold trimLO at h
      split at h
      · split at h <;> cases h
        rfl
      · cases h) fun args s r h g w vs _ hb ra => by
    unfold trimLO at h
    split at h
    · split at h
      · rename_i b c hc
        cases h
        obtain ⟨v, ws, rfl, r0, r1⟩ := ra.cons_inv
        obtain ⟨u, ws, rfl, r2, r3⟩ := r1.cons_inv
        rw [r3.nil_inv, str_inv r0, str_inv r2]
        have ec : c = ⟨#[48]⟩ := by
          have := bsL_of c
          rw [hc] at this
          exact this.symm
        rw [ec]
        exact (Any.strings_TrimLeft_one Tryz.lays161 b 48 (by decide) w).mono fun e w' ⟨he, hw⟩ => ⟨_, he, fun _ _ => .v _, by rw [hw]; exact Below.refl _ _⟩
      · cases h
    · cases h
theorem atoi_ok (hV : Vars W) (pu : Bool) : OraOk Tryz.prog W.heap.size ⟨W, σ⟩ pu 31 atoiO :=
  ora_of_calls pu (enters_of Tryz.func31 (by kernel_rfl) rfl) (fun a s r s' h => by
      unfold atoiO at h
      split at h
      · split at h
        · split at h <;> cases h <;> rfl
        · cases h
      · cases h) fun args s r h g w vs _ hb ra => by
    unfold atoiO at h
    split at h
    · split at h
      · rename_i b hb1
        obtain ⟨v, ws, rfl, r0, r1⟩ := ra.cons_inv
        rw [r1.nil_inv, str_inv r0]
        have two : ∀ (n : Int) (u : Value) (d : Fk.D), (∀ g' : G, Rep g' d u) → ∀ g' : G, Rep g' (.tup [.v (.int .i64 n), d]) (.tuple #[.int .i64 n, u]) := fun n u d hd g' =>
          .tup [.int .i64 n, u] rfl (RepL.cons (.v _) (.cons (hd g') .nil)).2
        have hV' := hV.later hb
        obtain ⟨te0, pe0, h0⟩ := hV'.e0
        obtain ⟨te1, pe1, h1⟩ := hV'.e1
        cases ha : atoiAll b.data.toList with
        | ok v =>
          rw [ha] at h
          cases h
          refine (Any.strconv_Atoi_ok Tryz.laysC172 b (by omega) v ha w).mono fun e w' ⟨he, hw⟩ => ⟨_, he, fun g' _ => two v _ _ (fun _ => .v _) g', ?_⟩
          rcases hw with rfl | ⟨t, rfl⟩
          · exact Below.refl _ _
          · exact Go.Joins.below_bytesWorld _ _ _ _ (Nat.le_refl _)
        | range =>
          rw [ha] at h
          cases h
          exact (Any.strconv_Atoi_range Tryz.laysC172 b (by omega) ha _ w h1 (.inr ⟨_, _, rfl⟩)).mono fun e w' ⟨N, he, _, _, hw⟩ => ⟨_, he, fun g' _ => two _ _ _ (fun _ => .iface _ (.un _)) g', hw⟩
        | _ =>
          rw [ha] at h
          cases h
          exact (Any.strconv_Atoi_syntax Tryz.laysC172 b (by omega) ha _ w h0 (.inr ⟨_, _, rfl⟩)).mono fun e w' ⟨N, he, _, _, hw⟩ => ⟨_, he, fun g' _ => two _ _ _ (fun _ => .iface _ (.un _)) g', hw⟩
      · cases h
    · cases h
end

/-- MarkNames's call. -/
theorem names_calls {W : World} (hV : Vars W) (v : Int) (b : ByteArray) : Calls Tryz.prog 3 #[.int .i64 v, .string b] W fun e w' => e = .returned (.bool true) ∧ Below W.heap.size W w' :=
  call_true (args := [.v (.int .i64 v), .v (.string b)]) (vs := [.int .i64 v, .string b]) (k := 51) (p := prN) mixed W (fun _ => none)
    (progOk allFnN ⟨atoi_ok hV _, liveN_ok _, trimP_ok _, itoa_ok hV _, trimL_ok _, trivial⟩) (by rw [run_names (k := 0) v b]; rfl) (.cons (.v _) (.cons (.v _) .nil)) (enters_of Tryz.func3 (by kernel_rfl) rfl _ _)
#print axioms names_calls
end Go.Proofs.YtjlaccjneaomgaaGreatDoor
