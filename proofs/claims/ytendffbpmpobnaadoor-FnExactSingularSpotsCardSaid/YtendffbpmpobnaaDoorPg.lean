/- A line has p + 1 points. -/
import Derived.Test.YtendffbpmpobnaaDoorQ4
namespace Go.Proofs.YtendffbpmpobnaaDoor
/-! ### a line has p + 1 points -/
abbrev N3 := Nat × Nat × Nat
def toL (x : N3) : List Int := [(x.1 : Int), (x.2.1 : Int), (x.2.2 : Int)]
def allN (n : Nat) : List N3 := [(0, 0, 1)] ++ (List.range n).map (fun z => (0, 1, z)) ++ (List.range n).flatMap fun y => (List.range n).map fun z => (1, y, z)
def onN (n : Nat) (x m : N3) : Bool := (x.1 * m.1 + x.2.1 * m.2.1 + x.2.2 * m.2.2) % n == 0
theorem allN_eq (n : Nat) : allPts (n : Int) = (allN n).map toL := by
  simp [allPts, allN, row1, rows2, row2, toL, List.map_flatMap, Function.comp_def]
theorem onN_eq (n : Nat) (x m : N3) : onB (n : Int) (toL x) (toL m) = onN n x m := by
  have e : dotV (toL x) (toL m) = ((x.1 * m.1 + x.2.1 * m.2.1 + x.2.2 * m.2.2 : Nat) : Int) := by
    simp only [dotV, dotT, toL, List.getD_cons_zero, List.getD_cons_succ, Int.zero_add, Int.natCast_add, Int.natCast_mul]
  rw [onB, onN, e, ← Int.natCast_emod, Bool.eq_iff_iff, beq_iff_eq, beq_iff_eq]
  omega
def lineN (n : Nat) : Bool := (allN n).all fun m => ((allN n).filter fun x => onN n x m).length == n + 1
theorem lineN_3 : lineN 3 = true := by decide +kernel
theorem lineN_5 : lineN 5 = true := by decide +kernel
theorem lineN_7 : lineN 7 = true := by decide +kernel
theorem lineN_11 : lineN 11 = true := by decide +kernel
theorem lineN_13 : lineN 13 = true := by decide +kernel
theorem line_count {p : Int} (hp : primeB p = true) {m : List Int} (hm : m ∈ allPts p) : (((allPts p).filter fun x => onB p x m).length : Int) = p + 1 := by
  obtain ⟨n, rfl, hn⟩ : ∃ n : Nat, p = (n : Int) ∧ lineN n = true := by
    rcases prime_cases hp with h | h | h | h | h
    · exact ⟨3, h, lineN_3⟩
    · exact ⟨5, h, lineN_5⟩
    · exact ⟨7, h, lineN_7⟩
    · exact ⟨11, h, lineN_11⟩
    · exact ⟨13, h, lineN_13⟩
  rw [allN_eq] at hm ⊢
  obtain ⟨y, hy, rfl⟩ := List.mem_map.1 hm
  rw [List.filter_map, List.length_map]
  have h1 := List.all_eq_true.1 hn y hy
  have e : ((fun x => onB (n : Int) x (toL y)) ∘ toL) = fun x => onN n x y := funext fun x => onN_eq n x y
  rw [e]
  have := eq_of_beq h1
  omega
end Go.Proofs.YtendffbpmpobnaaDoor
