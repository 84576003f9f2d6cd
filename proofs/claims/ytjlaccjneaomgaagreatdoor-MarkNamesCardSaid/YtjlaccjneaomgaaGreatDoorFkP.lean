/- Markers' names and numbers, in plain Lean: no program in sight. -/
import Derived.Lib.AtoiAllCases
import Derived.Lib.ItoaMem
import Derived.Lib.TrimByte
import Derived.Lib.Strings
namespace Go.Proofs.YtjlaccjneaomgaaGreatDoor
open Go Go.Lib

/-- A number's last k digits, ahead of what is there. -/
def digs : Nat → Nat → List UInt8 → List UInt8
  | 0, _, acc => acc
  | k + 1, v, acc => digs k (v / 10) (UInt8.ofNat (48 + v % 10) :: acc)

theorem digs_append : ∀ (k v : Nat) (acc : List UInt8), digs k v acc = digs k v [] ++ acc
  | 0, _, _ => rfl
  | k + 1, v, acc => by
    simp only [digs]
    rw [digs_append k (v / 10) (UInt8.ofNat (48 + v % 10) :: acc), digs_append k (v / 10) [UInt8.ofNat (48 + v % 10)]]
    simp

theorem digs_succ (k v : Nat) : digs (k + 1) v [] = digs k (v / 10) [] ++ [UInt8.ofNat (48 + v % 10)] := by
  simp only [digs]
  rw [digs_append]

theorem digs_zero : ∀ (k : Nat), digs k 0 [] = List.replicate k 48
  | 0 => rfl
  | k + 1 => by
    rw [digs_succ]
    simp only [Nat.zero_div, Nat.zero_mod, Nat.add_zero, digs_zero k]
    rw [show (UInt8.ofNat 48) = 48 from rfl, List.replicate_succ']

theorem digs_length : ∀ (k v : Nat), (digs k v []).length = k
  | 0, _ => rfl
  | k + 1, v => by rw [digs_succ]; simp [digs_length k]

/-- The padded numeral is the digits, so many. -/
theorem digs_pad : ∀ (k v : Nat), v < 10 ^ (k + 1) → List.replicate (k + 1 - (decDigits v).length) 48 ++ decDigits v = digs (k + 1) v []
  | k, v, h => by
    rw [digs_succ]
    by_cases h10 : v < 10
    · rw [decDigits_one h10, Nat.div_eq_of_lt h10, digs_zero, Nat.mod_eq_of_lt h10]
      simp
    · rw [decDigits, dif_neg h10]
      cases k with
      | zero => omega
      | succ k =>
        rw [← digs_pad k (v / 10) (by rw [Nat.pow_succ] at h; omega)]
        simp only [List.length_append, List.length_cons, List.length_nil, List.append_assoc]
        congr 2
        omega

theorem decDigits_ne : ∀ (v : Nat), decDigits v ≠ [] := fun v h => by
  have := decDigits_length v
  rw [h] at this
  have := nDigits_pos v
  simp at *
  omega

/-- A numeral begins with no nought, but that of nought. -/
theorem decDigits_head (v : Nat) : 1 ≤ v → ∃ c r, decDigits v = c :: r ∧ 49 ≤ c.toNat ∧ c.toNat ≤ 57 := by
  induction v using Nat.strongRecOn with
  | _ v ih =>
    intro h
    by_cases h10 : v < 10
    · refine ⟨UInt8.ofNat (48 + v), [], decDigits_one h10, ?_, ?_⟩ <;> simp [UInt8.toNat_ofNat'] <;> omega
    · obtain ⟨c, r, e, h1, h2⟩ := ih (v / 10) (by omega) (by omega)
      rw [decDigits, dif_neg h10, e]
      exact ⟨c, r ++ [UInt8.ofNat (48 + v % 10)], rfl, h1, h2⟩

theorem parse_snoc (c : UInt8) (hc : 48 ≤ c.toNat ∧ c.toNat ≤ 57) : ∀ (l : List UInt8) (acc u : Nat), parseUint10 acc l = .ok u → u * 10 + (c.toNat - 48) < 18446744073709551616 → u < 1844674407370955162 → parseUint10 acc (l ++ [c]) = .ok (u * 10 + (c.toNat - 48))
  | [], acc, u, h, hb, hu => by
    simp only [parseUint10] at h
    cases h
    simp only [List.nil_append, parseUint10]
    rw [if_pos hc, if_neg (by omega), if_neg (by omega)]
  | d :: r, acc, u, h, hb, hu => by
    simp only [parseUint10, List.cons_append] at h ⊢
    split at h
    · split at h
      · cases h
      · split at h
        · cases h
        · rename_i h1 h2 h3
          rw [if_pos h1, if_neg h2, if_neg h3]
          exact parse_snoc c hc r _ u h hb hu
    · cases h

theorem parse_dec (v : Nat) : v < 1000000000000000000 → parseUint10 0 (decDigits v) = .ok v := by
  induction v using Nat.strongRecOn with
  | _ v ih =>
    intro h
    by_cases h10 : v < 10
    · rw [decDigits_one h10]
      have e : (UInt8.ofNat (48 + v)).toNat = 48 + v := by rw [UInt8.toNat_ofNat']; omega
      simp only [parseUint10, e]
      rw [if_pos (by omega), if_neg (by omega), if_neg (by omega)]
      congr 1
      omega
    · rw [decDigits, dif_neg h10]
      have e : (UInt8.ofNat (48 + v % 10)).toNat = 48 + v % 10 := by rw [UInt8.toNat_ofNat']; omega
      rw [parse_snoc _ (by rw [e]; omega) _ 0 (v / 10) (ih (v / 10) (by omega) (by omega)) (by rw [e]; omega) (by omega), e]
      congr 1
      omega

theorem atoi_dec (v : Nat) (h1 : 1 ≤ v) (h : v < 1000000000000000000) : atoiAll (decDigits v) = .ok (v : Int) := by
  obtain ⟨c, r, e, a, b⟩ := decDigits_head v h1
  have hp : parseMag (decDigits v) = .ok v := by
    unfold parseMag
    rw [if_neg (decDigits_ne v), parse_dec v h]
  rw [e] at hp ⊢
  rw [atoiAll_plain c r (by omega) (by omega), hp]
  unfold signless
  simp only
  rw [if_neg (by omega)]

/-- A marker's name. -/
def nmL (v : Int) : List UInt8 := if 1 ≤ v ∧ v ≤ 1073741824 then 118 :: 47 :: digs 10 v.toNat [] else []

theorem trim_pad (k v : Nat) (h1 : 1 ≤ v) : trimLeftB (List.replicate k 48 ++ decDigits v) 48 = decDigits v := by
  unfold trimLeftB
  obtain ⟨c, r, e, a, b⟩ := decDigits_head v h1
  induction k with
  | zero =>
    rw [e]
    have : (c == 48) = false := by
      simp only [beq_eq_false_iff_ne, ne_eq]
      rintro rfl
      simp at a
    rw [List.replicate_zero, List.nil_append, List.dropWhile_cons_of_neg (by rw [this]; simp)]
  | succ k ih => rw [List.replicate_succ, List.cons_append, List.dropWhile_cons_of_pos (by rfl), ih]

theorem digs10_pad (v : Nat) (h : v ≤ 1073741824) : digs 10 v [] = List.replicate (10 - (decDigits v).length) 48 ++ decDigits v := (digs_pad 9 v (by omega)).symm

/-- What a marker's name says: its version. -/
theorem atoi_name (v : Nat) (h1 : 1 ≤ v) (h2 : v ≤ 1073741824) : atoiAll (trimLeftB (trimPrefix (nmL v) [118, 47]) 48) = .ok (v : Int) := by
  have e : nmL v = 118 :: 47 :: digs 10 v [] := by unfold nmL; rw [if_pos (by omega)]; simp
  have t : trimPrefix (118 :: 47 :: digs 10 v []) [118, 47] = digs 10 v [] := by simp [trimPrefix, hasPrefix]
  rw [e, t, digs10_pad v h2, trim_pad _ _ h1, atoi_dec v h1 (by omega)]

/-- The digits' number, behind a number. -/
def valL (acc : Nat) (l : List UInt8) : Nat := l.foldl (fun a c => 10 * a + (c.toNat - 48)) acc

theorem valL_cons (acc : Nat) (c : UInt8) (r : List UInt8) : valL acc (c :: r) = valL (10 * acc + (c.toNat - 48)) r := List.foldl_cons ..
theorem valL_append (l m : List UInt8) : ∀ (acc : Nat), valL acc (l ++ m) = valL (valL acc l) m := by
  intro acc
  unfold valL
  rw [List.foldl_append]

theorem valL_digs : ∀ (k v : Nat), v < 10 ^ k → valL 0 (digs k v []) = v
  | 0, v, h => by simp at h; subst h; rfl
  | k + 1, v, h => by
    rw [digs_succ, valL_append, valL_digs k (v / 10) (by rw [Nat.pow_succ] at h; omega)]
    have e : (UInt8.ofNat (48 + v % 10)).toNat = 48 + v % 10 := by rw [UInt8.toNat_ofNat']; omega
    rw [valL_cons, e]
    show 10 * (v / 10) + (48 + v % 10 - 48) = v
    omega

theorem digs_digit : ∀ (k v : Nat), ∀ c ∈ digs k v [], 48 ≤ c.toNat ∧ c.toNat ≤ 57
  | 0, _, _, h => by cases h
  | k + 1, v, c, h => by
    rw [digs_succ] at h
    rcases List.mem_append.1 h with h | h
    · exact digs_digit k _ c h
    · simp only [List.mem_cons, List.not_mem_nil, or_false] at h
      subst h
      rw [UInt8.toNat_ofNat']
      omega
end Go.Proofs.YtjlaccjneaomgaaGreatDoor
