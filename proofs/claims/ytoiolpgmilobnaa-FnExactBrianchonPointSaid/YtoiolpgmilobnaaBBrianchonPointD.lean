/- What the last text of BrianchonPoint needs, part 4: contracts of functions and plain mathematics. No conditions beyond those each theorem states. -/
import Derived.Deep.Slices
import Derived.Test.YtoiolpgmilobnaaBBrianchonPointC
namespace Go.Proofs.Ytoiolpgmilobnaa
open Go.RowKit Go.ChangeShapes Go.Deep
set_option linter.unusedVariables false
def cellI (W : World) (x : Addr) : Int := match W.cell? x with
  | some (.int _ n) => n
  | _ => 0
theorem open_sliceA {H : Type} {enc : TypeId × Value → H} {P : Program} {W : World} {r : Reach} {base t e u sz len cap : Nat} {a : Option Addr} {d : DataW H} {ps : List MemPlace} (hu : P.underlying t = some (.slice e)) (he : P.underlying e = some (.array sz u)) (hi : P.underlying u = some (.int .i64)) (hc : P.cellsOf e = sz) (hcu : P.cellsOf u = 1)
    (hv : Value.okWide P W r base t (.slice a len cap)) (hd : DataW.Trod enc P W 0 (fun _ => true) true t (.slice a len cap) d ps) :
    (a = none ∧ len = 0 ∧ cap = 0) ∨ ∃ (b o : Nat) (l : List Int), a = some ⟨b, o, none⟩ ∧ l.length = len * sz ∧ len ≤ maxLen ∧ ∃ cs t fr, W.heap[b]? = some (.cells cs t fr) ∧ ∀ (i : Nat) (n : Int), l[i]? = some n → cs[o + i]? = some (.int .i64 n) := by
  obtain ⟨fuel, hf⟩ := hd
  rcases open_slice hu hf with ⟨hcs, _⟩ | ⟨x, l, c, m, n, D, Pl, hcs, _, hl, hm, hmm, _, hx⟩
  · simp [Value.cells] at hcs
    exact .inl ⟨hcs.1, hcs.2.1, hcs.2.2⟩
  · simp [Value.cells] at hcs
    obtain ⟨rfl, rfl, rfl⟩ := hcs
    right
    simp only [Value.okWide, hu, Cell.okWide, Cell.ok] at hv
    obtain ⟨_, _, _, hspot, row, cells, hsh, _⟩ := hv
    obtain ⟨b, o, s⟩ := x
    simp only at hspot hsh
    subst hspot
    have hlm : len ≤ m := by rw [hmm]; split <;> omega
    have each : ∀ q, q < len * sz → W.cell? ⟨b, o + q, none⟩ = some (.int .i64 (cellI W ⟨b, o + q, none⟩)) := by
      intro q hq
      have hs0 : 0 < sz := by
        rcases Nat.eq_zero_or_pos sz with h | h
        · subst h; omega
        · exact h
      have hqi : q / sz < len := Nat.div_lt_of_lt_mul (by rwa [Nat.mul_comm])
      have hqk : q % sz < sz := Nat.mod_lt _ hs0
      have hqe : q / sz * sz + q % sz = q := by rw [Nat.mul_comm]; exact Nat.div_add_mod q sz
      obtain ⟨cs', h1, h2⟩ := hx (q / sz) (by omega)
      obtain ⟨xs, k, _, _, hcl, hxl, hxs⟩ := DataW.trod_array he h2
      have h3 := hxs (q % sz) hqk
      rw [hcu, Nat.mul_one, List.getElem?_eq_getElem (by omega)] at h3
      obtain ⟨z, hz, _, _⟩ := DataW.trod_int hi h3
      obtain ⟨_, hlen, hcell⟩ := World.cells?_some h1
      rw [hc] at hcell hlen
      have h4 := hcell (q % sz) hqk
      have h5 : cs'[q % sz]? = some (.int .i64 z) := by
        have := congrArg (·[0]?) hz
        simp only [List.getElem?_take, List.getElem?_drop] at this
        simpa using this
      rw [h5] at h4
      have h6 : W.cell? ⟨b, o + q, none⟩ = some (.int .i64 z) := by
        rw [← h4]
        congr 1
        simp only [add_none, Addr.mk.injEq, and_true, true_and]
        omega
      rw [h6]
      simp [cellI, h6]
    refine ⟨b, o, (List.range (len * sz)).map fun q => cellI W ⟨b, o + q, none⟩, rfl, by simp, by omega, ?_⟩
    simp only [World.shape?] at hsh
    split at hsh
    · rename_i cs t0 fr hh
      refine ⟨cs, t0, fr, hh, fun i n hin => ?_⟩
      rw [List.getElem?_map] at hin
      simp only [Option.map_eq_some_iff] at hin
      obtain ⟨q, hq, rfl⟩ := hin
      have hiq := List.getElem?_eq_some_iff.1 hq
      obtain ⟨h7, h8⟩ := hiq
      simp only [List.length_range] at h7
      simp only [List.getElem_range] at h8
      subst h8
      have := each i h7
      simpa [World.cell?, hh] using this
    · cases hsh
end Go.Proofs.Ytoiolpgmilobnaa
