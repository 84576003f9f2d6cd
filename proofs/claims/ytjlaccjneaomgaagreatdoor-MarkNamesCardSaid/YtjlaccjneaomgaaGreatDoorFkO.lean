/- This seat's program table is sound; the laws' closed run. -/
import Derived.Test.YtjlaccjneaomgaaGreatDoorFkR
import Derived.Test.YtjlaccjneaomgaaGreatDoorFkShelf
namespace Go.Proofs
open Go.RowKit Go.Maps Go.Sort Go.Shelf

/-- slices.Sort's two contracts at this dump, at the fence that asks nothing. -/
theorem Tryz.sorts61 (m : Nat) : AnyZ.SortsIn Tryz.prog Tryz.sorted61_ren Fence.wide m :=
  ⟨fun blk off cap ss W hH hblk hsz => callsIn_wide.2 (AnyM.slices_Sort_string Tryz.sort115 blk off cap ss W hH hblk hsz),
   fun p cap W => callsIn_wide.2 (AnyM.slices_Sort_string_none Tryz.sort115 p cap W)⟩
namespace YtjlaccjneaomgaaGreatDoor
open Go Go.Fk

theorem ora61 (B : Nat) (w0 : Base) (pu : Bool) : OraOk Tryz.prog B w0 pu 61 (sortedStr 116) :=
  sortedStr_ok (ρ6 := Tryz.sorted61_ren) (ρ7 := Tryz.keys62_ren) Tryz.sorted61 { Tryz.keys62 with } Tryz.sorts61 (enters_of Tryz.func115 (by kernel_rfl) rfl) rfl rfl (enters_of Tryz.func116 (by kernel_rfl) rfl) (enters_of Tryz.func61 (by kernel_rfl) rfl) Tryz.underlying9 pu

theorem mixed : Tryz.prog.follows .mixedOrders = true := Tryz.keys62.mixed

theorem good (B : Nat) (w0 : Base) : ProgOk Tryz.prog B w0 pr := progOk allFn ⟨ora61 B w0 _, trivial⟩

/-- The laws' closed run. -/
theorem live_true (w : World) : Calls Tryz.prog 7 #[] w fun e w' => e = .returned (.bool true) ∧ Below w.heap.size w w' :=
  call_true (σ := fun _ => none) (args := []) (vs := []) mixed w (good _ _) live_ev RepL.nil (enters_of Tryz.func7 (by kernel_rfl) rfl _ _)
#print axioms live_true
end YtjlaccjneaomgaaGreatDoor
end Go.Proofs
