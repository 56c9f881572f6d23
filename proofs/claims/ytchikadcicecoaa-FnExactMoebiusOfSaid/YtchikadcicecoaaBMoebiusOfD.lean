/- What the last text of MoebiusOf needs, part 4: contracts of functions and plain mathematics. No conditions beyond those each theorem states. -/
import Derived.Deep.Slices
import Derived.SizedLaws
import Derived.Test.YtchikadcicecoaaBMoebiusOfC
namespace Go.Proofs.Ytchikadcicecoaa
open Go.RowKit Go.ChangeShapes
set_option linter.unusedVariables false
theorem slice_len {H : Type} {enc : TypeId × Value → H} {P : Program} {W : World} {t e len cap : Nat} {a : Option Addr} {d : DataW H} {ps : List MemPlace} (hu : P.underlying t = some (.slice e)) (he : P.underlying e = some (.int .i64)) (hc : P.cellsOf e = 1)
    (hd : DataW.Trod enc P W 0 (fun _ => true) true t (.slice a len cap) d ps) : len = 0 ∨ ∃ el sp, d = .slice el sp ∧ el.length = len := by
  obtain ⟨fuel, hf⟩ := hd
  rcases open_ints hu he hc hf with ⟨hcs, _⟩ | ⟨x, l, c, zs, hcs, _, hl, hm, hz, hx, _, _⟩
  · simp [Value.cells] at hcs
    exact .inl hcs.2.1
  · simp [Value.cells] at hcs
    obtain ⟨rfl, rfl, rfl⟩ := hcs
    have hzl : zs.length = cap := by simpa using hz
    simp only [Prod.mk.injEq] at hx
    exact .inr ⟨_, _, hx.1, by simp [lits]; omega⟩
theorem len_bd {H : Type} {P : Program} {ts : List TypeId} {ds : List (DataW H)} (h : (DataW.weightsEach P ts ds).all (· ≤ reachBytes) = true) {j : Nat} {t e len : Nat} {d : DataW H} (ht : ts[j]? = some t) (hd : ds[j]? = some d) (hu : P.underlying t = some (.slice e)) (hb : P.bytesOf e = 8)
    (hs : len = 0 ∨ ∃ el sp, d = .slice el sp ∧ el.length = len) : len ≤ 1000000000000000 := by
  rcases hs with rfl | ⟨el, sp, rfl, rfl⟩
  · exact Nat.zero_le _
  · have h1 := sized_slice h ht hd hu
    have h2 := reachBytes_lt
    rw [hb] at h1
    omega
end Go.Proofs.Ytchikadcicecoaa
