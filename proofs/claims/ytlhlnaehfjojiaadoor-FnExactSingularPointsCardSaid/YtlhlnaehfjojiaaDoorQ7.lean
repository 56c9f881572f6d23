/- Polars; TangentAt of both sides. Printed by gen_q7.py. -/
import Derived.Test.YtlhlnaehfjojiaaDoorPn
import Derived.Test.YtlhlnaehfjojiaaDoorEngL
import Derived.Test.YtlhlnaehfjojiaaDoorEngJ
namespace Go.Proofs.YtlhlnaehfjojiaaDoor
attribute [local irreducible] CW OW QW QOp Con thenP inBlockP AW QX RW
set_option maxRecDepth 10000
set_option linter.unusedSimpArgs false
set_option linter.unusedVariables false
theorem l01Made_con (p x y z : Int) (hp : primeB p = true) : ConQ Tryd.prog [] 88 [.int p, .int x, .int y, .int z] [] (.tuple [.arr (normL p [x, y, z]), .bool (facP p [x, y, z] != 0)]) := by
  have hb := prime_bd hp
  have hnl := normL_length p [x, y, z]
  have hzz := fun h => normL_zero (p := p) (l := [x, y, z]) h
  have hno := l01Norm_con p 2 [x, y, z] 3 3 (by simp) hp (by omega)
  simp only [List.take_of_length_le (show [x, y, z].length ≤ 3 from Nat.le_refl _)] at hno
  generalize hNN : normL p [x, y, z] = NN at *
  generalize hff : facP p [x, y, z] = ff at *
  match NN, hnl with
  | [n0, n1, n2], _ =>
    refine conW tab_ok [(0, .int p), (1, .int x), (2, .int y), (3, .int z)] 0 [] [] Tryd.func88 rfl rfl rfl rfl rfl rfl rfl rfl rfl ?_
    refine cR ?_
    refine oAlloc rfl rfl rfl rfl rfl rfl rfl ?_
    refine oA rfl rfl ?_
    refine oN ?_
    refine cR ?_
    iterate 4 refine oM rfl rfl ?_
    refine oBsl (r := [x, y, z]) (zl := []) rfl rfl rfl rfl (.inl ⟨rfl, rfl⟩) rfl rfl rfl rfl rfl rfl ?_
    refine oCall (hno) [(0, 1)] 2 rfl rfl (Fits.mk' (vHc rfl vHn) rfl rfl (by first | (simp; done) | exact glOk rfl rfl rfl)) rfl rfl ?_
    rintro r H1 ⟨k', sp, hk1, hk2, rfl, rfl⟩
    refine ⟨.tuple [.slice 3 0 3 k', .bool (ff != 0)], [(1, .ints 2 [x, y, z]), (3, .ints 2 ([n0, n1, n2] ++ sp))], rfl, rfl, rfl, ?_⟩
    refine oM rfl rfl ?_
    iterate 2 refine oQ (Q_extract rfl rfl) rfl rfl ?_
    iterate 2 refine oA rfl rfl ?_
    refine oN ?_
    refine CW_seq ?_
    refine cR ?_
    refine oM rfl rfl ?_
    refine oQ (Q_not rfl) rfl rfl ?_
    refine oN ?_
    first | refine cT rfl ?_ | refine cF rfl ?_ | refine CW_cond rfl (fun hc => ?_) (fun hc => ?_)
    all_goals try simp only [s1, s2, s3, s4, s5, s6, s7, s8, s9, s10, s11, s12] at hc
    all_goals first
      | (
       refine CW_skip ?_)
      | (
       refine cR ?_
       refine oQ (Q_build rfl rfl rfl rfl rfl rfl rfl rfl) rfl rfl ?_
       first | refine oSw rfl rfl rfl rfl ?_ | refine oSa rfl rfl rfl rfl ?_
       refine oA rfl rfl ?_
       refine oN ?_
       refine CW_ret ?_)
    all_goals first
      | with_reducible refine tR ?_
      | with_reducible refine tE ?_
      | (
       with_reducible refine tN ?_
       refine CW_seq ?_
       refine CW_any (fun i => List.elem i [10, 11]) 12 rfl lateOk (by decide +kernel) (fun hst => ?_)
       refine aP 0 hst rfl rfl (by decide +kernel) (PX_move rfl rfl) rfl rfl ?_
       first | refine aQ 1 hst rfl rfl (by decide +kernel) (QX_of (Is0 rfl rfl rfl rfl rfl rfl) NE_ix) rfl rfl ?_ | refine aQ 1 hst rfl rfl (by decide +kernel) (QX_of (Is1 rfl rfl rfl rfl rfl rfl) NE_ix) rfl rfl ?_
       first | refine aQ 2 hst rfl rfl (by decide +kernel) (QX_of (Q_ldc rfl rfl rfl rfl rfl) NE_load) rfl rfl ?_ | refine aQ 2 hst rfl rfl (by decide +kernel) (QX_of (Ld rfl rfl rfl rfl) NE_load) rfl rfl ?_
       refine aP 3 hst rfl rfl (by decide +kernel) (PX_move rfl rfl) rfl rfl ?_
       first | refine aQ 4 hst rfl rfl (by decide +kernel) (QX_of (Is0 rfl rfl rfl rfl rfl rfl) NE_ix) rfl rfl ?_ | refine aQ 4 hst rfl rfl (by decide +kernel) (QX_of (Is1 rfl rfl rfl rfl rfl rfl) NE_ix) rfl rfl ?_
       first | refine aQ 5 hst rfl rfl (by decide +kernel) (QX_of (Q_ldc rfl rfl rfl rfl rfl) NE_load) rfl rfl ?_ | refine aQ 5 hst rfl rfl (by decide +kernel) (QX_of (Ld rfl rfl rfl rfl) NE_load) rfl rfl ?_
       refine aP 6 hst rfl rfl (by decide +kernel) (PX_move rfl rfl) rfl rfl ?_
       first | refine aQ 7 hst rfl rfl (by decide +kernel) (QX_of (Is0 rfl rfl rfl rfl rfl rfl) NE_ix) rfl rfl ?_ | refine aQ 7 hst rfl rfl (by decide +kernel) (QX_of (Is1 rfl rfl rfl rfl rfl rfl) NE_ix) rfl rfl ?_
       first | refine aQ 8 hst rfl rfl (by decide +kernel) (QX_of (Q_ldc rfl rfl rfl rfl rfl) NE_load) rfl rfl ?_ | refine aQ 8 hst rfl rfl (by decide +kernel) (QX_of (Ld rfl rfl rfl rfl) NE_load) rfl rfl ?_
       refine aQ 9 hst rfl rfl (by decide +kernel) (QX_of (Q_build rfl rfl rfl rfl rfl rfl rfl rfl) NE_build) rfl rfl ?_
       refine AW_last [10, 11] rfl (by decide +kernel) rfl ?_
       first | refine oSw rfl rfl rfl rfl ?_ | refine oSa rfl rfl rfl rfl ?_
       refine oA rfl rfl ?_
       refine OW_nil (npN ?_)
       all_goals with_reducible refine tN ?_
       all_goals (
        refine CW_ret ?_))
    all_goals (
     refine exitQ (.inr rfl) 0 (.cons (.arr rfl rfl rfl rfl (by first | omega | (dsimp only; omega) | (simp; omega) | (simp; done))) (.cons (.tmp rfl rfl) .nil)) ?_ rfl vHn rfl rfl
     first
       | (have hf : ff = 0 := hc
          simp only [resV, hf]
          rw [hzz hf]
          rfl)
       | (have hf : ¬ ff = 0 := hc
          simp only [resV]
          rw [show (ff != 0) = true by simpa using hf]
          rfl))
theorem sm_emod {p : Int} (hp : primeB p = true) (x : Int) : -13 ≤ x % p ∧ x % p ≤ 13 := by
  have := mod_bd hp x
  have := prime_bd hp
  omega
theorem matV_sm {p : Int} {c : List Int} (hp : primeB p = true) (hc6 : c.length = 6) : sm 13 (matV p c) := by
  match c, hc6 with
  | [a, b, c, d, e, f], _ =>
    intro x hx
    simp only [matV, List.mem_cons, List.not_mem_nil, or_false] at hx
    rcases hx with rfl | rfl | rfl | rfl | rfl | rfl | rfl | rfl | rfl <;> exact sm_emod hp _
theorem matV_length {p : Int} {c : List Int} (hc6 : c.length = 6) : (matV p c).length = 9 := by
  match c, hc6 with
  | [a, b, c, d, e, f], _ => rfl
theorem sm_take {B : Int} {l : List Int} (h : sm B l) (n : Nat) : sm B (l.take n) := fun x hx => h x (List.mem_of_mem_take hx)
theorem sm_drop {B : Int} {l : List Int} (h : sm B l) (n : Nat) : sm B (l.drop n) := fun x hx => h x (List.mem_of_mem_drop hx)


end Go.Proofs.YtlhlnaehfjojiaaDoor
