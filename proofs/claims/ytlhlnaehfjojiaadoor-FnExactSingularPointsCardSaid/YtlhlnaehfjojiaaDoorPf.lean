/- Plain laws of normal lists. -/
import Derived.Test.YtlhlnaehfjojiaaDoorA3
namespace Go.Proofs.YtlhlnaehfjojiaaDoor
theorem fac_mod (p : Int) (l : List Int) : facP p (l.map (· % p)) = facP p l := by
  unfold facP
  rw [List.map_map]
  congr 2
  apply List.map_congr_left
  intro x _
  exact mod_mod_self p x
theorem normL_mod (p : Int) (l : List Int) : normL p (l.map (· % p)) = normL p l := by
  unfold normL
  rw [fac_mod, List.map_map]
  apply List.map_congr_left
  intro x _
  simp only [Function.comp_apply, mod_mod_self]
theorem norm_congr {p : Int} {l m : List Int} (h : l.map (· % p) = m.map (· % p)) : normL p l = normL p m ∧ facP p l = facP p m := by
  rw [← normL_mod p l, ← normL_mod p m, ← fac_mod p l, ← fac_mod p m, h]; exact ⟨rfl, rfl⟩
theorem normL_zero {p : Int} {l : List Int} (h : facP p l = 0) : normL p l = List.replicate l.length 0 := by
  unfold normL
  rw [h]
  apply List.ext_getElem (by simp)
  intro i h1 h2
  simp
theorem bne_fac {p : Int} {l : List Int} {b : Bool} (h : (facP p l != 0) = b) : (b = true → facP p l ≠ 0) ∧ (b = false → facP p l = 0) := by
  subst h
  exact ⟨fun h => by simpa using h, fun h => by simpa using h⟩
end Go.Proofs.YtlhlnaehfjojiaaDoor
