/- MarkNil: what it comes to, on every data. -/
import Derived.Test.YtjlaccjneaomgaaGreatDoorFkO
import Derived.Test.YtjlaccjneaomgaaGreatDoorFkS
namespace Go.Proofs.YtjlaccjneaomgaaGreatDoor
open Go Go.Fk
open Go.RowKit (Below)
set_option maxRecDepth 1000000

def liveO : List Fk.D → St → Option (Fk.D × St)
  | [], s => some (.v (.bool true), s)
  | _, _ => none
def smallO (b : Bool) : List Fk.D → St → Option (Fk.D × St)
  | [.agg [.sym 0, .sym 1, .sym 2]], s => some (.v (.bool b), s)
  | _, _ => none
def otM (b : Bool) : Tb (List Fk.D → St → Option (Fk.D × St)) := (.n (.n (.n (.n (.n .nil (some (15, smallO b)) .nil) (some (7, liveO)) .nil) none .nil) none (.n .nil none (.n .nil none (.n .nil none (.n .nil (some (61, sortedStr 116)) .nil))))) none .nil)
def prM (b : Bool) : Prog := mkP kt ft (otM b)

/-! ### The law's own runs: whatever the manifest, whatever the tries -/
abbrev runM (b : Bool) (t : Int) : Bool := okB (evF (prM b) 60 (.func (.func 4) [] []) [.agg [.sym 0, .sym 1, .sym 2], .v (.int .i64 t)] .empty)
theorem run_neg (b : Bool) (m : Nat) : runM b (Int.negSucc m) = true := by cases b <;> kernel_rfl
theorem run_0 (b : Bool) : runM b 0 = true := by cases b <;> kernel_rfl
theorem run_1 (b : Bool) : runM b 1 = true := by cases b <;> kernel_rfl
theorem run_2 (b : Bool) : runM b 2 = true := by cases b <;> kernel_rfl
theorem run_3 (b : Bool) : runM b 3 = true := by cases b <;> kernel_rfl
theorem run_4 (b : Bool) : runM b 4 = true := by cases b <;> kernel_rfl
theorem run_5 (b : Bool) : runM b 5 = true := by cases b <;> kernel_rfl
theorem run_6 (b : Bool) : runM b 6 = true := by cases b <;> kernel_rfl
theorem run_7 (b : Bool) : runM b 7 = true := by cases b <;> kernel_rfl
theorem run_8 (b : Bool) : runM b 8 = true := by cases b <;> kernel_rfl
theorem run_big (b : Bool) (m : Nat) : runM b (Int.ofNat (m + 9)) = true := by cases b <;> kernel_rfl
theorem run_all (b : Bool) (t : Int) : runM b t = true := by
  cases t with
  | negSucc m => exact run_neg b m
  | ofNat m =>
    match m with
    | 0 => exact run_0 b
    | 1 => exact run_1 b
    | 2 => exact run_2 b
    | 3 => exact run_3 b
    | 4 => exact run_4 b
    | 5 => exact run_5 b
    | 6 => exact run_6 b
    | 7 => exact run_7 b
    | 8 => exact run_8 b
    | m + 9 => exact run_big b m
end Go.Proofs.YtjlaccjneaomgaaGreatDoor
