/- Markers' names and versions: what the program's functions, and the document's, come to, on every number and every text. -/
import Derived.Test.YtjlaccjneaomgaaGreatDoorFkU
import Derived.Test.YtjlaccjneaomgaaGreatDoorFkP
namespace Go.Proofs.YtjlaccjneaomgaaGreatDoor
open Go Go.Fk Go.Lib
set_option maxRecDepth 100000
set_option linter.unusedSimpArgs false

def bsL (l : List UInt8) : ByteArray := ⟨l.toArray⟩
theorem bsL_list (l : List UInt8) : (bsL l).data.toList = l := rfl
theorem bsL_size (l : List UInt8) : (bsL l).size = l.length := rfl
theorem bsL_append (l m : List UInt8) : bsL l ++ bsL m = bsL (l ++ m) := by
  apply ByteArray.ext
  simp [bsL]
theorem bsL_of (b : ByteArray) : bsL b.data.toList = b := by cases b; rfl

/-! ### What the library's functions answer -/
def itoaO : List Fk.D → St → Option (Fk.D × St)
  | [.v (.int .i64 n)], s => if -9223372036854775808 ≤ n ∧ n ≤ 9223372036854775807 then some (.v (.string (bsL (itoa n))), s) else none
  | _, _ => none
def atoiO : List Fk.D → St → Option (Fk.D × St)
  | [.v (.string b)], s => if b.size ≤ 1000 then match atoiAll b.data.toList with
      | .ok v => some (.tup [.v (.int .i64 v), .v .nilIface], s)
      | .range => some (.tup [.v (.int .i64 (atoiSat b.data.toList)), .iface 167 .un], s)
      | _ => some (.tup [.v (.int .i64 0), .iface 167 .un], s)
    else none
  | _, _ => none
def trimLO : List Fk.D → St → Option (Fk.D × St)
  | [.v (.string b), .v (.string c)], s => if c.data.toList = [48] then some (.v (.string (bsL (trimLeftB b.data.toList 48))), s) else none
  | _, _ => none
def trimPO : List Fk.D → St → Option (Fk.D × St)
  | [.v (.string b), .v (.string c)], s => some (.v (.string (bsL (trimPrefix b.data.toList c.data.toList))), s)
  | _, _ => none
def liveO : List Fk.D → St → Option (Fk.D × St)
  | [], s => some (.v (.bool true), s)
  | _, _ => none
def otN : Tb (List Fk.D → St → Option (Fk.D × St)) := (.n (.n (.n (.n (.n (.n .nil (some (31, atoiO)) .nil) none .nil) (some (7, liveO)) .nil) none .nil) none (.n (.n (.n (.n .nil (some (33, trimPO)) .nil) none .nil) none .nil) none (.n .nil none (.n .nil (some (29, itoaO)) .nil)))) none (.n (.n (.n (.n (.n .nil (some (32, trimLO)) .nil) none .nil) none .nil) none .nil) none .nil))
def prN : Prog := mkP kt ftN otN

/-- A call that turns nothing, of plain arguments, from the empty state. -/
theorem ev0 {p : Prog} {k f : Nat} {fn : IFn} {args : List Fk.D} (ho : p.ora f = none) (hf : p.fn f = some fn) (hk : p.kind f = 0) (hp : args.length = fn.params) (hn : args.map norm = args) {d d' : Fk.D}
    (h : Ex (evF p k) p.pure fn.body ⟨envOf args 0 .nil, [], .empty⟩ fun x f' => x = .ret ∧ f'.defers = [] ∧ (match resAll f' fn.results with | some [d] => some d | some ds => some (.tup ds) | none => none) = some d ∧ Fk.freeze f'.st 0 6 d = some d') :
    evF p (k + 1) (.func (.func f) [] []) args .empty = some (d', .empty) := by
  obtain ⟨x, f', he, hx, hd, hr, hz⟩ := h
  subst hx
  have hrun : runFn (evF p k) (callD p (evF p k)) p.pure fn args .empty = some (d, f'.st) := by
    unfold runFn
    rw [he]
    simp only [hd, runDefers]
    obtain ⟨env, df, st⟩ := f'
    simp only at hd hr ⊢
    subst hd
    generalize resAll ⟨env, [], st⟩ fn.results = o at hr ⊢
    match o with
    | none => cases hr
    | some [] => simp at hr ⊢; exact hr
    | some [a] => simp at hr ⊢; exact hr
    | some (a :: b :: r) => simp at hr ⊢; exact hr
  unfold evF
  simp only [ho, hf, hk, hp, hn, List.nil_append, List.append_nil, List.map_nil, if_true]
  have e0 : ({ St.empty with lim := ⟨St.empty.hn, St.empty.hn, St.empty.tn⟩ } : St) = .empty := rfl
  rw [e0, hrun, if_neg (by decide), if_neg (by decide)]
  have : Fk.freeze f'.st St.empty.hn 6 d = some d' := hz
  simp only [Fk.settle, this]

section
variable {k : Nat}
theorem pu (f : Nat) (h : (prN.kind f == 0) = true) : prN.pure (.func (.func f) [] []) = true := h
theorem call29 (n : Int) (h1 : -9223372036854775808 ≤ n) (h2 : n ≤ 9223372036854775807) : evF prN (k + 1) (.func (.func 29) [] []) [.v (.int .i64 n)] .empty = some (.v (.string (bsL (itoa n))), .empty) := by
  exact if_pos ⟨h1, h2⟩
theorem call33 (b c : ByteArray) : evF prN (k + 1) (.func (.func 33) [] []) [.v (.string b), .v (.string c)] .empty = some (.v (.string (bsL (trimPrefix b.data.toList c.data.toList))), .empty) := rfl
theorem call32 (b : ByteArray) : evF prN (k + 1) (.func (.func 32) [] []) [.v (.string b), .v (.string (bsN [48]))] .empty = some (.v (.string (bsL (trimLeftB b.data.toList 48))), .empty) := by
  show trimLO [.v (.string b), .v (.string (bsN [48]))] .empty = _
  simp only [trimLO]
  rw [if_pos (by rfl)]
theorem call31 (b : ByteArray) (h : b.size ≤ 1000) : evF prN (k + 1) (.func (.func 31) [] []) [.v (.string b)] .empty = match atoiAll b.data.toList with
      | .ok v => some (.tup [.v (.int .i64 v), .v .nilIface], .empty)
      | .range => some (.tup [.v (.int .i64 (atoiSat b.data.toList)), .iface 167 .un], .empty)
      | _ => some (.tup [.v (.int .i64 0), .iface 167 .un], .empty) := by
  exact if_pos h

/-! Noughts. -/
theorem rep1 : evF prN (k + 30) (.func (.func 30) [] []) [.v (.string (bsN [48])), .v (.int .i64 (IntKind.i64.wrap (10 - ((1 : Nat) : Int))))] .empty = some (.v (.string (bsL (List.replicate (10 - 1) 48))), .empty) := by kernel_rfl
theorem rep2 : evF prN (k + 30) (.func (.func 30) [] []) [.v (.string (bsN [48])), .v (.int .i64 (IntKind.i64.wrap (10 - ((2 : Nat) : Int))))] .empty = some (.v (.string (bsL (List.replicate (10 - 2) 48))), .empty) := by kernel_rfl
theorem rep3 : evF prN (k + 30) (.func (.func 30) [] []) [.v (.string (bsN [48])), .v (.int .i64 (IntKind.i64.wrap (10 - ((3 : Nat) : Int))))] .empty = some (.v (.string (bsL (List.replicate (10 - 3) 48))), .empty) := by kernel_rfl
theorem rep4 : evF prN (k + 30) (.func (.func 30) [] []) [.v (.string (bsN [48])), .v (.int .i64 (IntKind.i64.wrap (10 - ((4 : Nat) : Int))))] .empty = some (.v (.string (bsL (List.replicate (10 - 4) 48))), .empty) := by kernel_rfl
theorem rep5 : evF prN (k + 30) (.func (.func 30) [] []) [.v (.string (bsN [48])), .v (.int .i64 (IntKind.i64.wrap (10 - ((5 : Nat) : Int))))] .empty = some (.v (.string (bsL (List.replicate (10 - 5) 48))), .empty) := by kernel_rfl
theorem rep6 : evF prN (k + 30) (.func (.func 30) [] []) [.v (.string (bsN [48])), .v (.int .i64 (IntKind.i64.wrap (10 - ((6 : Nat) : Int))))] .empty = some (.v (.string (bsL (List.replicate (10 - 6) 48))), .empty) := by kernel_rfl
theorem rep7 : evF prN (k + 30) (.func (.func 30) [] []) [.v (.string (bsN [48])), .v (.int .i64 (IntKind.i64.wrap (10 - ((7 : Nat) : Int))))] .empty = some (.v (.string (bsL (List.replicate (10 - 7) 48))), .empty) := by kernel_rfl
theorem rep8 : evF prN (k + 30) (.func (.func 30) [] []) [.v (.string (bsN [48])), .v (.int .i64 (IntKind.i64.wrap (10 - ((8 : Nat) : Int))))] .empty = some (.v (.string (bsL (List.replicate (10 - 8) 48))), .empty) := by kernel_rfl
theorem rep9 : evF prN (k + 30) (.func (.func 30) [] []) [.v (.string (bsN [48])), .v (.int .i64 (IntKind.i64.wrap (10 - ((9 : Nat) : Int))))] .empty = some (.v (.string (bsL (List.replicate (10 - 9) 48))), .empty) := by kernel_rfl
theorem rep10 : evF prN (k + 30) (.func (.func 30) [] []) [.v (.string (bsN [48])), .v (.int .i64 (IntKind.i64.wrap (10 - ((10 : Nat) : Int))))] .empty = some (.v (.string (bsL (List.replicate (10 - 10) 48))), .empty) := by kernel_rfl
theorem call30 (L : Nat) (h1 : 1 ≤ L) (h2 : L ≤ 10) : evF prN (k + 30) (.func (.func 30) [] []) [.v (.string (bsN [48])), .v (.int .i64 (IntKind.i64.wrap (10 - (L : Int))))] .empty = some (.v (.string (bsL (List.replicate (10 - L) 48))), .empty) := by
  have : L = 1 ∨ L = 2 ∨ L = 3 ∨ L = 4 ∨ L = 5 ∨ L = 6 ∨ L = 7 ∨ L = 8 ∨ L = 9 ∨ L = 10 := by omega
  rcases this with rfl | rfl | rfl | rfl | rfl | rfl | rfl | rfl | rfl | rfl
  · exact rep1
  · exact rep2
  · exact rep3
  · exact rep4
  · exact rep5
  · exact rep6
  · exact rep7
  · exact rep8
  · exact rep9
  · exact rep10
end
end Go.Proofs.YtjlaccjneaomgaaGreatDoor
