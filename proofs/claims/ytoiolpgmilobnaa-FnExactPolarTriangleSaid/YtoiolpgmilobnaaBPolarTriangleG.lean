/- What the last text of PolarTriangle needs, part 7: contracts of functions and plain mathematics. No conditions beyond those each theorem states. -/
import Derived.Test.YtoiolpgmilobnaaBPolarTriangleF
namespace Go.Proofs.Ytoiolpgmilobnaa
attribute [local irreducible] CW OW QW QOp Con thenP inBlockP AW QX RW
set_option maxRecDepth 10000
set_option linter.unusedSimpArgs false
set_option linter.unusedVariables false
theorem l01Made_con (p x y z : Int) (hp : primeB p = true) : ConQ Try.prog [] 94 [.int p, .int x, .int y, .int z] [] (.tuple [.arr (normL p [x, y, z]), .bool (facP p [x, y, z] != 0)]) := by
  have hb := prime_bd hp
  have hnl := normL_length p [x, y, z]
  have hzz := fun h => normL_zero (p := p) (l := [x, y, z]) h
  have hno := l01Norm_con p 2 [x, y, z] 3 3 (by simp) hp (by omega)
  simp only [List.take_of_length_le (show [x, y, z].length ≤ 3 from Nat.le_refl _)] at hno
  generalize hNN : normL p [x, y, z] = NN at *
  generalize hff : facP p [x, y, z] = ff at *
  match NN, hnl with
  | [n0, n1, n2], _ =>
    refine conW tab_ok [(0, .int p), (1, .int x), (2, .int y), (3, .int z)] 0 [] [] Try.func94 rfl rfl rfl rfl rfl rfl rfl rfl rfl ?_
    refine cR ?_
    refine oAlloc rfl rfl rfl rfl rfl rfl rfl ?_
    refine oA rfl rfl ?_
    refine oN ?_
    refine cR ?_
    iterate 4 refine oM rfl rfl ?_
    refine oBsl (r := [x, y, z]) (zl := []) rfl rfl rfl rfl (.inl ⟨rfl, rfl⟩) rfl rfl rfl rfl rfl rfl ?_
    refine oCall (hno) [(0, 1)] 2 rfl rfl (Fits.mk' (vHc rfl vHn) rfl rfl (by first | (simp; done) | exact glOk rfl rfl rfl)) rfl rfl ?_
    rintro r H1 ⟨k', sp, hk1, hk2, rfl, rfl⟩
    refine ⟨.tuple [.slice 3 0 3 k', .bool (ff != 0)], [(1, .ints 2 [x, y, z]), (3, .ints 2 ([n0, n1, n2] ++ sp))], rfl, rfl, rfl, ?_⟩
    refine oM rfl rfl ?_
    iterate 2 refine oQ (Q_extract rfl rfl) rfl rfl ?_
    iterate 2 refine oA rfl rfl ?_
    refine oN ?_
    refine CW_seq ?_
    refine cR ?_
    refine oM rfl rfl ?_
    refine oQ (Q_not rfl) rfl rfl ?_
    refine oN ?_
    first | refine cT rfl ?_ | refine cF rfl ?_ | refine CW_cond rfl (fun hc => ?_) (fun hc => ?_)
    all_goals try simp only [s1, s2, s3, s4, s5, s6, s7, s8, s9, s10, s11, s12] at hc
    all_goals first
      | (
       refine CW_skip ?_)
      | (
       refine cR ?_
       refine oQ (Q_build rfl rfl rfl rfl rfl rfl rfl rfl) rfl rfl ?_
       first | refine oSw rfl rfl rfl rfl ?_ | refine oSa rfl rfl rfl rfl ?_
       refine oA rfl rfl ?_
       refine oN ?_
       refine CW_ret ?_)
    all_goals first
      | with_reducible refine tR ?_
      | with_reducible refine tE ?_
      | (
       with_reducible refine tN ?_
       refine CW_seq ?_
       refine CW_any (fun i => List.elem i [10, 11]) 12 rfl lateOk (by decide +kernel) (fun hst => ?_)
       refine aP 0 hst rfl rfl (by decide +kernel) (PX_move rfl rfl) rfl rfl ?_
       first | refine aQ 1 hst rfl rfl (by decide +kernel) (QX_of (Is0 rfl rfl rfl rfl rfl rfl) NE_ix) rfl rfl ?_ | refine aQ 1 hst rfl rfl (by decide +kernel) (QX_of (Is1 rfl rfl rfl rfl rfl rfl) NE_ix) rfl rfl ?_
       first | refine aQ 2 hst rfl rfl (by decide +kernel) (QX_of (Q_ldc rfl rfl rfl rfl rfl) NE_load) rfl rfl ?_ | refine aQ 2 hst rfl rfl (by decide +kernel) (QX_of (Ld rfl rfl rfl rfl) NE_load) rfl rfl ?_
       refine aP 3 hst rfl rfl (by decide +kernel) (PX_move rfl rfl) rfl rfl ?_
       first | refine aQ 4 hst rfl rfl (by decide +kernel) (QX_of (Is0 rfl rfl rfl rfl rfl rfl) NE_ix) rfl rfl ?_ | refine aQ 4 hst rfl rfl (by decide +kernel) (QX_of (Is1 rfl rfl rfl rfl rfl rfl) NE_ix) rfl rfl ?_
       first | refine aQ 5 hst rfl rfl (by decide +kernel) (QX_of (Q_ldc rfl rfl rfl rfl rfl) NE_load) rfl rfl ?_ | refine aQ 5 hst rfl rfl (by decide +kernel) (QX_of (Ld rfl rfl rfl rfl) NE_load) rfl rfl ?_
       refine aP 6 hst rfl rfl (by decide +kernel) (PX_move rfl rfl) rfl rfl ?_
       first | refine aQ 7 hst rfl rfl (by decide +kernel) (QX_of (Is0 rfl rfl rfl rfl rfl rfl) NE_ix) rfl rfl ?_ | refine aQ 7 hst rfl rfl (by decide +kernel) (QX_of (Is1 rfl rfl rfl rfl rfl rfl) NE_ix) rfl rfl ?_
       first | refine aQ 8 hst rfl rfl (by decide +kernel) (QX_of (Q_ldc rfl rfl rfl rfl rfl) NE_load) rfl rfl ?_ | refine aQ 8 hst rfl rfl (by decide +kernel) (QX_of (Ld rfl rfl rfl rfl) NE_load) rfl rfl ?_
       refine aQ 9 hst rfl rfl (by decide +kernel) (QX_of (Q_build rfl rfl rfl rfl rfl rfl rfl rfl) NE_build) rfl rfl ?_
       refine AW_last [10, 11] rfl (by decide +kernel) rfl ?_
       first | refine oSw rfl rfl rfl rfl ?_ | refine oSa rfl rfl rfl rfl ?_
       refine oA rfl rfl ?_
       refine OW_nil (npN ?_)
       all_goals with_reducible refine tN ?_
       all_goals (
        refine CW_ret ?_))
    all_goals (
     refine exitQ (.inr rfl) 0 (.cons (.arr rfl rfl rfl rfl (by first | omega | (dsimp only; omega) | (simp; omega) | (simp; done))) (.cons (.tmp rfl rfl) .nil)) ?_ rfl vHn rfl rfl
     first
       | (have hf : ff = 0 := hc
          simp only [resV, hf]
          rw [hzz hf]
          rfl)
       | (have hf : ¬ ff = 0 := hc
          simp only [resV]
          rw [show (ff != 0) = true by simpa using hf]
          rfl))
theorem matrix_con6 (p a b c d e f : Int) (hp : primeB p = true) (h1 : sm 13 [a, b, c, d, e, f]) : ConQ Try.prog [] 46 [.arr [a, b, c, d, e, f], .int p] [] (.arr (matV p [a, b, c, d, e, f])) := by
  have hpb := prime_bd hp
  have hA := h1 a (by simp)
  have hB := h1 b (by simp)
  have hC := h1 c (by simp)
  have hrl : (matRaw [a, b, c, d, e, f]).length = 9 := rfl
  refine conW tab_ok [(0, .arr [a, b, c, d, e, f]), (1, .int p)] 0 [] [] Try.func46 rfl rfl rfl rfl rfl rfl rfl rfl rfl ?_
  refine cR ?_
  refine oBox rfl rfl rfl rfl rfl rfl ?_
  refine oAlloc rfl rfl rfl rfl rfl rfl rfl ?_
  refine oN ?_
  refine cR ?_
  first | refine oQ (Ia0 rfl rfl rfl rfl rfl rfl) rfl rfl ?_ | refine oQ (Ia1 rfl rfl rfl rfl rfl rfl) rfl rfl ?_
  first | refine oQ (Q_ldc rfl rfl rfl rfl rfl) rfl rfl ?_ | refine oQ (Ld rfl rfl rfl rfl) rfl rfl ?_
  first | refine oQ (Q_binu rfl rfl rfl (by omega)) rfl rfl ?_ | refine oQ (Q_bin rfl rfl rfl) rfl rfl ?_
  first | refine oQ (Ia0 rfl rfl rfl rfl rfl rfl) rfl rfl ?_ | refine oQ (Ia1 rfl rfl rfl rfl rfl rfl) rfl rfl ?_
  first | refine oQ (Q_ldc rfl rfl rfl rfl rfl) rfl rfl ?_ | refine oQ (Ld rfl rfl rfl rfl) rfl rfl ?_
  first | refine oQ (Ia0 rfl rfl rfl rfl rfl rfl) rfl rfl ?_ | refine oQ (Ia1 rfl rfl rfl rfl rfl rfl) rfl rfl ?_
  first | refine oQ (Q_ldc rfl rfl rfl rfl rfl) rfl rfl ?_ | refine oQ (Ld rfl rfl rfl rfl) rfl rfl ?_
  refine oQ (Q_build (r := [2 * a, d, e]) rfl rfl rfl rfl rfl rfl rfl rfl) rfl rfl ?_
  first | refine oQ (Ia0 rfl rfl rfl rfl rfl rfl) rfl rfl ?_ | refine oQ (Ia1 rfl rfl rfl rfl rfl rfl) rfl rfl ?_
  first | refine oQ (Q_ldc rfl rfl rfl rfl rfl) rfl rfl ?_ | refine oQ (Ld rfl rfl rfl rfl) rfl rfl ?_
  first | refine oQ (Ia0 rfl rfl rfl rfl rfl rfl) rfl rfl ?_ | refine oQ (Ia1 rfl rfl rfl rfl rfl rfl) rfl rfl ?_
  first | refine oQ (Q_ldc rfl rfl rfl rfl rfl) rfl rfl ?_ | refine oQ (Ld rfl rfl rfl rfl) rfl rfl ?_
  first | refine oQ (Q_binu rfl rfl rfl (by omega)) rfl rfl ?_ | refine oQ (Q_bin rfl rfl rfl) rfl rfl ?_
  first | refine oQ (Ia0 rfl rfl rfl rfl rfl rfl) rfl rfl ?_ | refine oQ (Ia1 rfl rfl rfl rfl rfl rfl) rfl rfl ?_
  first | refine oQ (Q_ldc rfl rfl rfl rfl rfl) rfl rfl ?_ | refine oQ (Ld rfl rfl rfl rfl) rfl rfl ?_
  refine oQ (Q_build (r := [d, 2 * b, f]) rfl rfl rfl rfl rfl rfl rfl rfl) rfl rfl ?_
  first | refine oQ (Ia0 rfl rfl rfl rfl rfl rfl) rfl rfl ?_ | refine oQ (Ia1 rfl rfl rfl rfl rfl rfl) rfl rfl ?_
  first | refine oQ (Q_ldc rfl rfl rfl rfl rfl) rfl rfl ?_ | refine oQ (Ld rfl rfl rfl rfl) rfl rfl ?_
  first | refine oQ (Ia0 rfl rfl rfl rfl rfl rfl) rfl rfl ?_ | refine oQ (Ia1 rfl rfl rfl rfl rfl rfl) rfl rfl ?_
  first | refine oQ (Q_ldc rfl rfl rfl rfl rfl) rfl rfl ?_ | refine oQ (Ld rfl rfl rfl rfl) rfl rfl ?_
  first | refine oQ (Ia0 rfl rfl rfl rfl rfl rfl) rfl rfl ?_ | refine oQ (Ia1 rfl rfl rfl rfl rfl rfl) rfl rfl ?_
  first | refine oQ (Q_ldc rfl rfl rfl rfl rfl) rfl rfl ?_ | refine oQ (Ld rfl rfl rfl rfl) rfl rfl ?_
  first | refine oQ (Q_binu rfl rfl rfl (by omega)) rfl rfl ?_ | refine oQ (Q_bin rfl rfl rfl) rfl rfl ?_
  refine oQ (Q_build (r := [e, f, 2 * c]) rfl rfl rfl rfl rfl rfl rfl rfl) rfl rfl ?_
  refine oQ (Q_build (r := matRaw [a, b, c, d, e, f]) rfl rfl rfl rfl rfl rfl rfl rfl) rfl rfl ?_
  refine oAlloc rfl rfl rfl rfl rfl rfl rfl ?_
  first | refine oSw rfl rfl rfl rfl ?_ | refine oSa rfl rfl rfl rfl ?_
  refine oN ?_
  refine CW_seq ?_
  refine cR ?_
  refine oM rfl rfl ?_
  refine oN ?_
  refine CW_block ?_
  refine CW_loop (ι := Nat) (fun i => i ≤ 3) (fun i => ⟨[(1, .int p), (4, .ptr 1 0), (5, .ptr 2 0), (33, .int i)], [(1, .ints 64 [0, 0, 0, 0, 0, 0, 0, 0, 0]), (2, .ints 64 (((matRaw [a, b, c, d, e, f]).take (i * 3)).map (· % p) ++ (matRaw [a, b, c, d, e, f]).drop (i * 3)))], 3⟩) (fun i => 3 - i) 0 ?_ ?_ ?_
  · first | trivial | omega | (simp; done) | (simp; omega)
  · refine View.mk' [] rfl rfl rfl ?_ ?_
    repeat' first | exact vFn | refine vFc rfl ?_ | exact vHn | refine vHc rfl ?_ | refine vFc (congrArg (fun z => some (V.int z)) ?_) ?_ | refine vHc (congrArg (fun z => some (Blk.ints _ z)) ?_) ?_ | refine vFc (congrArg (fun z => some (V.bool z)) ?_) ?_ | refine vFs rfl rfl ?_ ?_
  intro i hi
  refine cR ?_
  refine oQ (Q_bin rfl rfl rfl) rfl rfl ?_
  refine oN ?_
  refine CW_seq ?_
  first | refine cT rfl ?_ | refine cF rfl ?_ | refine CW_cond rfl (fun hc => ?_) (fun hc => ?_)
  all_goals try simp only [s1, s2, s3, s4, s5, s6, s7, s8, s9, s10, s11, s12] at hc
  all_goals first
    | (
     refine CW_skip ?_)
    | (
     refine CW_exit ?_)
  all_goals first
    | with_reducible refine tR ?_
    | with_reducible refine tE ?_
    | (
     with_reducible refine tN ?_
     refine CW_seq ?_
     refine CW_block ?_
     refine cR ?_
     refine oM rfl rfl ?_
     refine oA rfl rfl ?_
     refine oN ?_
     refine cR ?_
     refine oM rfl rfl ?_
     refine oN ?_
     refine CW_block ?_
     refine CW_loop (ι := Nat) (fun k => k ≤ 3) (fun k => ⟨[(1, .int p), (4, .ptr 1 0), (5, .ptr 2 0), (6, .int i), (33, .int i), (36, .int k)], [(1, .ints 64 [0, 0, 0, 0, 0, 0, 0, 0, 0]), (2, .ints 64 (((matRaw [a, b, c, d, e, f]).take (i * 3 + k)).map (· % p) ++ (matRaw [a, b, c, d, e, f]).drop (i * 3 + k)))], 3⟩) (fun k => 3 - k) 0 ?_ ?_ ?_
     · first | trivial | omega | (simp; done) | (simp; omega)
     · refine View.mk' [] rfl rfl rfl ?_ ?_
       repeat' first | exact vFn | refine vFc rfl ?_ | exact vHn | refine vHc rfl ?_ | refine vFc (congrArg (fun z => some (V.int z)) ?_) ?_ | refine vHc (congrArg (fun z => some (Blk.ints _ z)) ?_) ?_ | refine vFc (congrArg (fun z => some (V.bool z)) ?_) ?_ | refine vFs rfl rfl ?_ ?_
     intro k hk
     have hml : (((matRaw [a, b, c, d, e, f]).take (i * 3 + k)).map (· % p)).length = min (i * 3 + k) 9 := by rw [List.length_map, List.length_take, hrl]
     have hqq : k < 3 → i * 3 + k < 9 := fun h => by omega
     refine cR ?_
     refine oQ (Q_bin rfl rfl rfl) rfl rfl ?_
     refine oN ?_
     refine CW_seq ?_
     first | refine cT rfl ?_ | refine cF rfl ?_ | refine CW_cond rfl (fun hc => ?_) (fun hc => ?_)
     all_goals try simp only [s1, s2, s3, s4, s5, s6, s7, s8, s9, s10, s11, s12] at hc
     all_goals first
       | (
        refine CW_skip ?_)
       | (
        refine CW_exit ?_)
     all_goals first
       | with_reducible refine tR ?_
       | with_reducible refine tE ?_
       | (
        with_reducible refine tN ?_
        refine CW_seq ?_
        refine CW_block ?_
        refine cR ?_
        refine oM rfl rfl ?_
        refine oA rfl rfl ?_
        refine oN ?_
        refine CW_any (fun i => List.elem i [11]) 12 rfl lateOk (by decide +kernel) (fun hst => ?_)
        refine aP 0 hst rfl rfl (by decide +kernel) (PX_move rfl rfl) rfl rfl ?_
        refine aP 1 hst rfl rfl (by decide +kernel) (PX_move rfl rfl) rfl rfl ?_
        refine aP 2 hst rfl rfl (by decide +kernel) (PX_move rfl rfl) rfl rfl ?_
        refine aP 3 hst rfl rfl (by decide +kernel) (PX_move rfl rfl) rfl rfl ?_
        refine aQ 4 hst rfl rfl (by decide +kernel) (QX_of (Q_ixa0z 3 rfl rfl rfl rfl rfl rfl (by omega)) NE_ix) rfl rfl ?_
        refine aQ 5 hst rfl rfl (by decide +kernel) (QX_of (Q_ixa1 rfl rfl rfl rfl rfl rfl (by omega)) NE_ix) rfl rfl ?_
        refine aQ 6 hst rfl rfl (by decide +kernel) (QX_of (Q_ldc rfl rfl rfl rfl (mid_get (by omega) (by omega))) NE_load) rfl rfl ?_
        refine aP 7 hst rfl rfl (by decide +kernel) (PX_move rfl rfl) rfl rfl ?_
        refine aQ 8 hst rfl rfl (by decide +kernel) (QX_call0 (mod_con _ _ (by omega) (by omega)) rfl rfl rfl) rfl rfl ?_
        refine aQ 9 hst rfl rfl (by decide +kernel) (QX_of (Q_ixa0z 3 rfl rfl rfl rfl rfl rfl (by omega)) NE_ix) rfl rfl ?_
        refine aQ 10 hst rfl rfl (by decide +kernel) (QX_of (Q_ixa1 rfl rfl rfl rfl rfl rfl (by omega)) NE_ix) rfl rfl ?_
        refine AW_last [11] rfl (by decide +kernel) rfl ?_
        refine oS rfl rfl rfl rfl rfl ?_
        refine OW_nil (npN ?_)
        all_goals first | with_reducible refine bN ?_ | with_reducible refine bE ?_ | with_reducible refine bR ?_ | refine bX rfl ?_
        all_goals with_reducible refine tN ?_
        all_goals (
         refine CW_region ?_
         first | refine oQ (Q_binu rfl rfl rfl (by omega)) rfl rfl ?_ | refine oQ (Q_bin rfl rfl rfl) rfl rfl ?_
         refine oM rfl rfl ?_
         refine OW_nil ?_))
     all_goals first
       | with_reducible refine tR ?_
       | with_reducible refine tE ?_
       | (
        with_reducible refine tN ?_
        refine ⟨k + 1, ?_, ?_, View.mk' [] rfl rfl rfl ?_ ?_⟩
        · omega
        · omega
        all_goals (repeat' first | exact vFn | refine vFc rfl ?_ | exact vHn | refine vHc rfl ?_ | refine vFc (congrArg (fun z => some (V.int z)) ?_) ?_ | refine vHc (congrArg (fun z => some (Blk.ints _ z)) ?_) ?_ | refine vFc (congrArg (fun z => some (V.bool z)) ?_) ?_ | refine vFs rfl rfl ?_ ?_)
        all_goals (rw [mid_set (by omega) (by omega), ← Nat.add_assoc, take_snoc (show i * 3 + k < (matRaw [a, b, c, d, e, f]).length by omega), List.map_append]; rfl))
     all_goals first | with_reducible refine bN ?_ | with_reducible refine bE ?_ | with_reducible refine bR ?_ | refine bX rfl ?_
     all_goals first | with_reducible refine bN ?_ | with_reducible refine bE ?_ | with_reducible refine bR ?_ | refine bX rfl ?_
     all_goals with_reducible refine tN ?_
     all_goals (
      refine CW_region ?_
      first | refine oQ (Q_binu rfl rfl rfl (by omega)) rfl rfl ?_ | refine oQ (Q_bin rfl rfl rfl) rfl rfl ?_
      refine oM rfl rfl ?_
      refine OW_nil ?_))
  all_goals first
    | with_reducible refine tR ?_
    | with_reducible refine tE ?_
    | (
     with_reducible refine tN ?_
     refine ⟨i + 1, ?_, ?_, View.mk' [] rfl rfl rfl ?_ ?_⟩
     · omega
     · omega
     all_goals (repeat' first | exact vFn | refine vFc rfl ?_ | exact vHn | refine vHc rfl ?_ | refine vFc (congrArg (fun z => some (V.int z)) ?_) ?_ | refine vHc (congrArg (fun z => some (Blk.ints _ z)) ?_) ?_ | refine vFc (congrArg (fun z => some (V.bool z)) ?_) ?_ | refine vFs rfl rfl ?_ ?_)
     all_goals (have e3 : k = 3 := by omega)
     all_goals (subst e3; simp only [Nat.add_mul, Nat.one_mul]))
  all_goals first | with_reducible refine bN ?_ | with_reducible refine bE ?_ | with_reducible refine bR ?_ | refine bX rfl ?_
  all_goals with_reducible refine tN ?_
  all_goals (
   refine cR ?_
   first | refine oQ (Lw rfl rfl rfl rfl) rfl rfl ?_ | refine oQ (La rfl rfl rfl rfl rfl) rfl rfl ?_
   first | refine oSw rfl rfl rfl rfl ?_ | refine oSa rfl rfl rfl rfl ?_
   refine oN ?_
   refine CW_ret ?_)
  all_goals (
   have e3 : i = 3 := by omega
   subst e3
   (refine exitQ (.inr rfl) 0 (.cons (.arr rfl rfl rfl rfl (by first | omega | (dsimp only; omega) | (simp; omega) | (simp; done))) .nil) ?_ rfl vHn rfl rfl); rfl)
theorem matrix_con (p : Int) (c : List Int) (hp : primeB p = true) (hc6 : c.length = 6) (h1 : sm 13 c) : ConQ Try.prog [] 46 [.arr c, .int p] [] (.arr (matV p c)) := by
  match c, hc6, h1 with
  | [a, b, c, d, e, f], _, h1 => exact matrix_con6 p a b c d e f hp h1
theorem sm_emod {p : Int} (hp : primeB p = true) (x : Int) : -13 ≤ x % p ∧ x % p ≤ 13 := by
  have := mod_bd hp x
  have := prime_bd hp
  omega
theorem matV_sm {p : Int} {c : List Int} (hp : primeB p = true) (hc6 : c.length = 6) : sm 13 (matV p c) := by
  match c, hc6 with
  | [a, b, c, d, e, f], _ =>
    intro x hx
    simp only [matV, List.mem_cons, List.not_mem_nil, or_false] at hx
    rcases hx with rfl | rfl | rfl | rfl | rfl | rfl | rfl | rfl | rfl <;> exact sm_emod hp _
theorem matV_length {p : Int} {c : List Int} (hc6 : c.length = 6) : (matV p c).length = 9 := by
  match c, hc6 with
  | [a, b, c, d, e, f], _ => rfl
theorem sm_take {B : Int} {l : List Int} (h : sm B l) (n : Nat) : sm B (l.take n) := fun x hx => h x (List.mem_of_mem_take hx)
theorem sm_drop {B : Int} {l : List Int} (h : sm B l) (n : Nat) : sm B (l.drop n) := fun x hx => h x (List.mem_of_mem_drop hx)
theorem polar_con (p : Int) (c a : List Int) (hp : primeB p = true) (hc6 : c.length = 6) (ha3 : a.length = 3) (h1 : sm 13 c) (h2 : sm 13 a) : ConQ Try.prog [] 57 [.arr c, .int p, .arr a] [] (.tuple [.arr (normL p (polX p c a)), .bool (facP p (polX p c a) != 0)]) := by
  have hpb := prime_bd hp
  have hms := matV_sm (p := p) hp hc6
  have hml := matV_length (p := p) hc6
  have hnl := normL_length p (polX p c a)
  have hpl : (polX p c a).length = 3 := rfl
  have hpm : normL p [dotV ((matV p c).take 3) a % p, dotV (((matV p c).drop 3).take 3) a % p, dotV (((matV p c).drop 6).take 3) a % p] = normL p (polX p c a) := normL_mod p (polX p c a)
  have hpf : facP p [dotV ((matV p c).take 3) a % p, dotV (((matV p c).drop 3).take 3) a % p, dotV (((matV p c).drop 6).take 3) a % p] = facP p (polX p c a) := fac_mod p (polX p c a)
  refine conW tab_ok [(0, .arr c), (1, .int p), (2, .arr a)] 0 [] [] Try.func57 rfl rfl rfl rfl rfl rfl rfl rfl rfl ?_
  refine cR ?_
  iterate 2 refine oBox rfl rfl rfl rfl rfl rfl ?_
  refine oAlloc rfl rfl rfl rfl rfl rfl rfl ?_
  refine oA rfl rfl ?_
  refine oN ?_
  refine cR ?_
  refine oQ (Q_ldw rfl rfl rfl rfl hc6) rfl rfl ?_
  refine oM rfl rfl ?_
  refine oQ (Q_call0 (matrix_con p c hp hc6 h1) rfl rfl rfl) rfl rfl ?_
  refine oAlloc rfl rfl rfl rfl rfl rfl rfl ?_
  first | refine oSw rfl rfl rfl rfl ?_ | refine oSa rfl rfl rfl rfl ?_
  refine oN ?_
  refine CW_seq ?_
  refine CW_any (fun i => List.elem i [17]) 18 rfl lateOk (by decide +kernel) (fun hst => ?_)
  refine aP 0 hst rfl rfl (by decide +kernel) (PX_move rfl rfl) rfl rfl ?_
  first | refine aQ 1 hst rfl rfl (by decide +kernel) (QX_of (Q_ixa0z 3 rfl rfl rfl rfl rfl rfl (by first | omega | (dsimp only; omega) | (simp; omega) | (simp; done))) NE_ix) rfl rfl ?_ | refine aQ 1 hst rfl rfl (by decide +kernel) (QX_of (Q_ixaz 3 rfl rfl rfl rfl rfl rfl (by first | omega | (dsimp only; omega) | (simp; omega) | (simp; done))) NE_ix) rfl rfl ?_
  refine aQ 2 hst rfl rfl (by decide +kernel) (QX_of (Q_lda (n := 3) rfl rfl rfl rfl rfl (by first | omega | (dsimp only; omega) | (simp; omega) | (simp; done))) NE_load) rfl rfl ?_
  refine aQ 3 hst rfl rfl (by decide +kernel) (QX_of (Q_ldw rfl rfl rfl rfl ha3) NE_load) rfl rfl ?_
  refine aQ 4 hst rfl rfl (by decide +kernel) (QX_call0 (dot_con p ((matV p c).take 3) a hp (by rw [List.length_take]; omega) ha3 (sm_take hms 3) h2) rfl rfl rfl) rfl rfl ?_
  refine aP 5 hst rfl rfl (by decide +kernel) (PX_move rfl rfl) rfl rfl ?_
  first | refine aQ 6 hst rfl rfl (by decide +kernel) (QX_of (Q_ixa0z 3 rfl rfl rfl rfl rfl rfl (by first | omega | (dsimp only; omega) | (simp; omega) | (simp; done))) NE_ix) rfl rfl ?_ | refine aQ 6 hst rfl rfl (by decide +kernel) (QX_of (Q_ixaz 3 rfl rfl rfl rfl rfl rfl (by first | omega | (dsimp only; omega) | (simp; omega) | (simp; done))) NE_ix) rfl rfl ?_
  refine aQ 7 hst rfl rfl (by decide +kernel) (QX_of (Q_lda (n := 3) rfl rfl rfl rfl rfl (by first | omega | (dsimp only; omega) | (simp; omega) | (simp; done))) NE_load) rfl rfl ?_
  refine aQ 8 hst rfl rfl (by decide +kernel) (QX_of (Q_ldw rfl rfl rfl rfl ha3) NE_load) rfl rfl ?_
  refine aQ 9 hst rfl rfl (by decide +kernel) (QX_call0 (dot_con p (((matV p c).drop 3).take 3) a hp (by rw [List.length_take, List.length_drop]; omega) ha3 (sm_take (sm_drop hms 3) 3) h2) rfl rfl rfl) rfl rfl ?_
  refine aP 10 hst rfl rfl (by decide +kernel) (PX_move rfl rfl) rfl rfl ?_
  first | refine aQ 11 hst rfl rfl (by decide +kernel) (QX_of (Q_ixa0z 3 rfl rfl rfl rfl rfl rfl (by first | omega | (dsimp only; omega) | (simp; omega) | (simp; done))) NE_ix) rfl rfl ?_ | refine aQ 11 hst rfl rfl (by decide +kernel) (QX_of (Q_ixaz 3 rfl rfl rfl rfl rfl rfl (by first | omega | (dsimp only; omega) | (simp; omega) | (simp; done))) NE_ix) rfl rfl ?_
  refine aQ 12 hst rfl rfl (by decide +kernel) (QX_of (Q_lda (n := 3) rfl rfl rfl rfl rfl (by first | omega | (dsimp only; omega) | (simp; omega) | (simp; done))) NE_load) rfl rfl ?_
  refine aQ 13 hst rfl rfl (by decide +kernel) (QX_of (Q_ldw rfl rfl rfl rfl ha3) NE_load) rfl rfl ?_
  refine aQ 14 hst rfl rfl (by decide +kernel) (QX_call0 (dot_con p (((matV p c).drop 6).take 3) a hp (by rw [List.length_take, List.length_drop]; omega) ha3 (sm_take (sm_drop hms 6) 3) h2) rfl rfl rfl) rfl rfl ?_
  refine aQ 15 hst rfl rfl (by decide +kernel) (QX_of (Q_build (r := [dotV ((matV p c).take 3) a % p, dotV (((matV p c).drop 3).take 3) a % p, dotV (((matV p c).drop 6).take 3) a % p]) rfl rfl rfl rfl rfl rfl rfl rfl) NE_build) rfl rfl ?_
  refine AW_one (i := 16) (by decide +kernel) ?_
  refine gAlloc rfl rfl rfl rfl rfl rfl rfl rfl rfl ?_
  refine AW_last [17] rfl (by decide +kernel) rfl ?_
  first | refine oSw rfl rfl rfl rfl ?_ | refine oSa rfl rfl rfl rfl ?_
  refine OW_nil (npN ?_)
  all_goals with_reducible refine tN ?_
  all_goals (
   refine cR ?_
   refine oM rfl rfl ?_
   refine oQ (Q_slaF rfl rfl rfl rfl) rfl rfl ?_
   refine oCall (normal_con p 35 [dotV ((matV p c).take 3) a % p, dotV (((matV p c).drop 3).take 3) a % p, dotV (((matV p c).drop 6).take 3) a % p] 3 3 (by simp) hp (by omega)) [(0, 4)] 0 rfl rfl (Fits.mk' (vHc rfl vHn) rfl rfl (by first | (simp; done) | exact glOk rfl rfl rfl)) rfl rfl ?_
   rintro r H1 ⟨rfl, rfl⟩
   simp only [List.take_of_length_le (show [dotV ((matV p c).take 3) a % p, dotV (((matV p c).drop 3).take 3) a % p, dotV (((matV p c).drop 6).take 3) a % p].length ≤ 3 from Nat.le_refl _), List.drop_eq_nil_of_le (show [dotV ((matV p c).take 3) a % p, dotV (((matV p c).drop 3).take 3) a % p, dotV (((matV p c).drop 6).take 3) a % p].length ≤ 3 from Nat.le_refl _), List.append_nil, hpm, hpf]
   refine ⟨.bool (facP p (polX p c a) != 0), [(4, .ints 35 (normL p (polX p c a)))], rfl, rfl, rfl, ?_⟩
   refine oA rfl rfl ?_
   refine oN ?_
   refine cR ?_
   first | refine oQ (Lw rfl rfl rfl rfl) rfl rfl ?_ | refine oQ (La rfl rfl rfl rfl rfl) rfl rfl ?_
   refine oM rfl rfl ?_
   first | refine oSw rfl rfl rfl rfl ?_ | refine oSa rfl rfl rfl rfl ?_
   refine oA rfl rfl ?_
   refine oN ?_
   refine CW_ret ?_)
  all_goals (
   ((refine exitQ (.inr rfl) 0 (.cons (.arr rfl rfl rfl rfl (by first | omega | (dsimp only; omega) | (simp; omega) | (simp; done))) (.cons (.tmp rfl rfl) .nil)) ?_ rfl vHn rfl rfl); rfl))
theorem l03Rows_con6 (p a b c d e f : Int) (hp : primeB p = true) (h1 : modB p [a, b, c, d, e, f] = true) : Con Try.prog [] 78 [.int p, .arr [a, b, c, d, e, f]] [] (fun r H' => r = .slice 3 0 3 3 ∧ H' = [(0, .ints 2 [2 * a % p, d, e]), (1, .ints 2 [d, 2 * b % p, f]), (2, .ints 2 [e, f, 2 * c % p]), (3, .vals 103 [.slice 0 0 3 3, .slice 1 0 3 3, .slice 2 0 3 3])]) := by
  have hpb := prime_bd hp
  simp only [modB, List.all_cons, List.all_nil, Bool.and_true, Bool.and_eq_true, decide_eq_true_eq] at h1
  obtain ⟨hA, hB, hC, hD, hE, hF⟩ := h1
  have eA : (2 * a).tmod p = 2 * a % p := Int.tmod_eq_emod_of_nonneg (by omega)
  have eB : (2 * b).tmod p = 2 * b % p := Int.tmod_eq_emod_of_nonneg (by omega)
  have eC : (2 * c).tmod p = 2 * c % p := Int.tmod_eq_emod_of_nonneg (by omega)
  refine conW tab_ok [(0, .int p), (1, .arr [a, b, c, d, e, f])] 0 [] [] Try.func78 rfl rfl rfl rfl rfl rfl rfl rfl rfl ?_
  refine cR ?_
  refine oBox rfl rfl rfl rfl rfl rfl ?_
  refine oA rfl rfl ?_
  refine oN ?_
  refine CW_seq ?_
  refine CW_any (fun _ => false) 32 rfl lateOk (by decide +kernel) (fun hst => ?_)
  first | refine aQ 0 hst rfl rfl (by decide +kernel) (QX_of (Ia0 rfl rfl rfl rfl rfl rfl) NE_ix) rfl rfl ?_ | refine aQ 0 hst rfl rfl (by decide +kernel) (QX_of (Ia1 rfl rfl rfl rfl rfl rfl) NE_ix) rfl rfl ?_
  first | refine aQ 1 hst rfl rfl (by decide +kernel) (QX_of (Q_ldc rfl rfl rfl rfl rfl) NE_load) rfl rfl ?_ | refine aQ 1 hst rfl rfl (by decide +kernel) (QX_of (Ld rfl rfl rfl rfl) NE_load) rfl rfl ?_
  first | refine aQ 2 hst rfl rfl (by decide +kernel) (QX_of (Q_binu rfl rfl rfl (by omega)) NE_bin) rfl rfl ?_ | refine aQ 2 hst rfl rfl (by decide +kernel) (QX_of (Q_bin rfl rfl rfl) NE_bin) rfl rfl ?_
  refine aP 3 hst rfl rfl (by decide +kernel) (PX_move rfl rfl) rfl rfl ?_
  refine aQ 4 hst rfl rfl (by decide +kernel) (QX_of (Q_rem rfl rfl (by omega)) NE_bin) rfl rfl ?_; rw [eA]
  first | refine aQ 5 hst rfl rfl (by decide +kernel) (QX_of (Ia0 rfl rfl rfl rfl rfl rfl) NE_ix) rfl rfl ?_ | refine aQ 5 hst rfl rfl (by decide +kernel) (QX_of (Ia1 rfl rfl rfl rfl rfl rfl) NE_ix) rfl rfl ?_
  first | refine aQ 6 hst rfl rfl (by decide +kernel) (QX_of (Q_ldc rfl rfl rfl rfl rfl) NE_load) rfl rfl ?_ | refine aQ 6 hst rfl rfl (by decide +kernel) (QX_of (Ld rfl rfl rfl rfl) NE_load) rfl rfl ?_
  first | refine aQ 7 hst rfl rfl (by decide +kernel) (QX_of (Ia0 rfl rfl rfl rfl rfl rfl) NE_ix) rfl rfl ?_ | refine aQ 7 hst rfl rfl (by decide +kernel) (QX_of (Ia1 rfl rfl rfl rfl rfl rfl) NE_ix) rfl rfl ?_
  first | refine aQ 8 hst rfl rfl (by decide +kernel) (QX_of (Q_ldc rfl rfl rfl rfl rfl) NE_load) rfl rfl ?_ | refine aQ 8 hst rfl rfl (by decide +kernel) (QX_of (Ld rfl rfl rfl rfl) NE_load) rfl rfl ?_
  first | refine aQ 10 hst rfl rfl (by decide +kernel) (QX_of (Ia0 rfl rfl rfl rfl rfl rfl) NE_ix) rfl rfl ?_ | refine aQ 10 hst rfl rfl (by decide +kernel) (QX_of (Ia1 rfl rfl rfl rfl rfl rfl) NE_ix) rfl rfl ?_
  first | refine aQ 11 hst rfl rfl (by decide +kernel) (QX_of (Q_ldc rfl rfl rfl rfl rfl) NE_load) rfl rfl ?_ | refine aQ 11 hst rfl rfl (by decide +kernel) (QX_of (Ld rfl rfl rfl rfl) NE_load) rfl rfl ?_
  first | refine aQ 12 hst rfl rfl (by decide +kernel) (QX_of (Ia0 rfl rfl rfl rfl rfl rfl) NE_ix) rfl rfl ?_ | refine aQ 12 hst rfl rfl (by decide +kernel) (QX_of (Ia1 rfl rfl rfl rfl rfl rfl) NE_ix) rfl rfl ?_
  first | refine aQ 13 hst rfl rfl (by decide +kernel) (QX_of (Q_ldc rfl rfl rfl rfl rfl) NE_load) rfl rfl ?_ | refine aQ 13 hst rfl rfl (by decide +kernel) (QX_of (Ld rfl rfl rfl rfl) NE_load) rfl rfl ?_
  first | refine aQ 14 hst rfl rfl (by decide +kernel) (QX_of (Q_binu rfl rfl rfl (by omega)) NE_bin) rfl rfl ?_ | refine aQ 14 hst rfl rfl (by decide +kernel) (QX_of (Q_bin rfl rfl rfl) NE_bin) rfl rfl ?_
  refine aP 15 hst rfl rfl (by decide +kernel) (PX_move rfl rfl) rfl rfl ?_
  refine aQ 16 hst rfl rfl (by decide +kernel) (QX_of (Q_rem rfl rfl (by omega)) NE_bin) rfl rfl ?_; rw [eB]
  first | refine aQ 17 hst rfl rfl (by decide +kernel) (QX_of (Ia0 rfl rfl rfl rfl rfl rfl) NE_ix) rfl rfl ?_ | refine aQ 17 hst rfl rfl (by decide +kernel) (QX_of (Ia1 rfl rfl rfl rfl rfl rfl) NE_ix) rfl rfl ?_
  first | refine aQ 18 hst rfl rfl (by decide +kernel) (QX_of (Q_ldc rfl rfl rfl rfl rfl) NE_load) rfl rfl ?_ | refine aQ 18 hst rfl rfl (by decide +kernel) (QX_of (Ld rfl rfl rfl rfl) NE_load) rfl rfl ?_
  first | refine aQ 20 hst rfl rfl (by decide +kernel) (QX_of (Ia0 rfl rfl rfl rfl rfl rfl) NE_ix) rfl rfl ?_ | refine aQ 20 hst rfl rfl (by decide +kernel) (QX_of (Ia1 rfl rfl rfl rfl rfl rfl) NE_ix) rfl rfl ?_
  first | refine aQ 21 hst rfl rfl (by decide +kernel) (QX_of (Q_ldc rfl rfl rfl rfl rfl) NE_load) rfl rfl ?_ | refine aQ 21 hst rfl rfl (by decide +kernel) (QX_of (Ld rfl rfl rfl rfl) NE_load) rfl rfl ?_
  first | refine aQ 22 hst rfl rfl (by decide +kernel) (QX_of (Ia0 rfl rfl rfl rfl rfl rfl) NE_ix) rfl rfl ?_ | refine aQ 22 hst rfl rfl (by decide +kernel) (QX_of (Ia1 rfl rfl rfl rfl rfl rfl) NE_ix) rfl rfl ?_
  first | refine aQ 23 hst rfl rfl (by decide +kernel) (QX_of (Q_ldc rfl rfl rfl rfl rfl) NE_load) rfl rfl ?_ | refine aQ 23 hst rfl rfl (by decide +kernel) (QX_of (Ld rfl rfl rfl rfl) NE_load) rfl rfl ?_
  first | refine aQ 24 hst rfl rfl (by decide +kernel) (QX_of (Ia0 rfl rfl rfl rfl rfl rfl) NE_ix) rfl rfl ?_ | refine aQ 24 hst rfl rfl (by decide +kernel) (QX_of (Ia1 rfl rfl rfl rfl rfl rfl) NE_ix) rfl rfl ?_
  first | refine aQ 25 hst rfl rfl (by decide +kernel) (QX_of (Q_ldc rfl rfl rfl rfl rfl) NE_load) rfl rfl ?_ | refine aQ 25 hst rfl rfl (by decide +kernel) (QX_of (Ld rfl rfl rfl rfl) NE_load) rfl rfl ?_
  first | refine aQ 26 hst rfl rfl (by decide +kernel) (QX_of (Q_binu rfl rfl rfl (by omega)) NE_bin) rfl rfl ?_ | refine aQ 26 hst rfl rfl (by decide +kernel) (QX_of (Q_bin rfl rfl rfl) NE_bin) rfl rfl ?_
  refine aP 27 hst rfl rfl (by decide +kernel) (PX_move rfl rfl) rfl rfl ?_
  refine aQ 28 hst rfl rfl (by decide +kernel) (QX_of (Q_rem rfl rfl (by omega)) NE_bin) rfl rfl ?_; rw [eC]
  refine AW_three (i := 9) (j := 19) (k := 29) (by decide +kernel) ?_ ?_ ?_
  all_goals first
    | (
     refine gBsl (zl := []) (r := [2 * a % p, d, e]) rfl rfl rfl rfl rfl rfl (.inl ⟨rfl, rfl⟩) rfl rfl rfl rfl rfl rfl ?_
     refine AW_two (i := 19) (j := 29) (by decide +kernel) ?_ ?_
     all_goals first
       | (
        refine gBsl (zl := []) (r := [d, 2 * b % p, f]) rfl rfl rfl rfl rfl rfl (.inl ⟨rfl, rfl⟩) rfl rfl rfl rfl rfl rfl ?_
        refine AW_one (i := 29) (by decide +kernel) ?_
        refine gBsl (zl := []) (r := [e, f, 2 * c % p]) rfl rfl rfl rfl rfl rfl (.inl ⟨rfl, rfl⟩) rfl rfl rfl rfl rfl rfl ?_
        refine AW_one (i := 30) (by decide +kernel) ?_
        refine gBslv (r := [.slice 1 0 3 3, .slice 2 0 3 3, .slice 3 0 3 3]) rfl rfl rfl rfl rfl rfl rfl rfl rfl rfl rfl rfl rfl rfl rfl ?_
        refine aQ 31 hst rfl rfl (by decide +kernel) (QX_of (Q_assign rfl rfl) NE_assign) rfl rfl ?_
        refine AW_done (by decide +kernel) ?_)
       | (
        refine gBsl (zl := []) (r := [e, f, 2 * c % p]) rfl rfl rfl rfl rfl rfl (.inl ⟨rfl, rfl⟩) rfl rfl rfl rfl rfl rfl ?_
        refine AW_one (i := 19) (by decide +kernel) ?_
        refine gBsl (zl := []) (r := [d, 2 * b % p, f]) rfl rfl rfl rfl rfl rfl (.inl ⟨rfl, rfl⟩) rfl rfl rfl rfl rfl rfl ?_
        refine AW_one (i := 30) (by decide +kernel) ?_
        refine gBslv (r := [.slice 1 0 3 3, .slice 3 0 3 3, .slice 2 0 3 3]) rfl rfl rfl rfl rfl rfl rfl rfl rfl rfl rfl rfl rfl rfl rfl ?_
        refine aQ 31 hst rfl rfl (by decide +kernel) (QX_of (Q_assign rfl rfl) NE_assign) rfl rfl ?_
        refine AW_done (by decide +kernel) ?_))
    | (
     refine gBsl (zl := []) (r := [d, 2 * b % p, f]) rfl rfl rfl rfl rfl rfl (.inl ⟨rfl, rfl⟩) rfl rfl rfl rfl rfl rfl ?_
     refine AW_two (i := 9) (j := 29) (by decide +kernel) ?_ ?_
     all_goals first
       | (
        refine gBsl (zl := []) (r := [2 * a % p, d, e]) rfl rfl rfl rfl rfl rfl (.inl ⟨rfl, rfl⟩) rfl rfl rfl rfl rfl rfl ?_
        refine AW_one (i := 29) (by decide +kernel) ?_
        refine gBsl (zl := []) (r := [e, f, 2 * c % p]) rfl rfl rfl rfl rfl rfl (.inl ⟨rfl, rfl⟩) rfl rfl rfl rfl rfl rfl ?_
        refine AW_one (i := 30) (by decide +kernel) ?_
        refine gBslv (r := [.slice 2 0 3 3, .slice 1 0 3 3, .slice 3 0 3 3]) rfl rfl rfl rfl rfl rfl rfl rfl rfl rfl rfl rfl rfl rfl rfl ?_
        refine aQ 31 hst rfl rfl (by decide +kernel) (QX_of (Q_assign rfl rfl) NE_assign) rfl rfl ?_
        refine AW_done (by decide +kernel) ?_)
       | (
        refine gBsl (zl := []) (r := [e, f, 2 * c % p]) rfl rfl rfl rfl rfl rfl (.inl ⟨rfl, rfl⟩) rfl rfl rfl rfl rfl rfl ?_
        refine AW_one (i := 9) (by decide +kernel) ?_
        refine gBsl (zl := []) (r := [2 * a % p, d, e]) rfl rfl rfl rfl rfl rfl (.inl ⟨rfl, rfl⟩) rfl rfl rfl rfl rfl rfl ?_
        refine AW_one (i := 30) (by decide +kernel) ?_
        refine gBslv (r := [.slice 3 0 3 3, .slice 1 0 3 3, .slice 2 0 3 3]) rfl rfl rfl rfl rfl rfl rfl rfl rfl rfl rfl rfl rfl rfl rfl ?_
        refine aQ 31 hst rfl rfl (by decide +kernel) (QX_of (Q_assign rfl rfl) NE_assign) rfl rfl ?_
        refine AW_done (by decide +kernel) ?_))
    | (
     refine gBsl (zl := []) (r := [e, f, 2 * c % p]) rfl rfl rfl rfl rfl rfl (.inl ⟨rfl, rfl⟩) rfl rfl rfl rfl rfl rfl ?_
     refine AW_two (i := 9) (j := 19) (by decide +kernel) ?_ ?_
     all_goals first
       | (
        refine gBsl (zl := []) (r := [2 * a % p, d, e]) rfl rfl rfl rfl rfl rfl (.inl ⟨rfl, rfl⟩) rfl rfl rfl rfl rfl rfl ?_
        refine AW_one (i := 19) (by decide +kernel) ?_
        refine gBsl (zl := []) (r := [d, 2 * b % p, f]) rfl rfl rfl rfl rfl rfl (.inl ⟨rfl, rfl⟩) rfl rfl rfl rfl rfl rfl ?_
        refine AW_one (i := 30) (by decide +kernel) ?_
        refine gBslv (r := [.slice 2 0 3 3, .slice 3 0 3 3, .slice 1 0 3 3]) rfl rfl rfl rfl rfl rfl rfl rfl rfl rfl rfl rfl rfl rfl rfl ?_
        refine aQ 31 hst rfl rfl (by decide +kernel) (QX_of (Q_assign rfl rfl) NE_assign) rfl rfl ?_
        refine AW_done (by decide +kernel) ?_)
       | (
        refine gBsl (zl := []) (r := [d, 2 * b % p, f]) rfl rfl rfl rfl rfl rfl (.inl ⟨rfl, rfl⟩) rfl rfl rfl rfl rfl rfl ?_
        refine AW_one (i := 9) (by decide +kernel) ?_
        refine gBsl (zl := []) (r := [2 * a % p, d, e]) rfl rfl rfl rfl rfl rfl (.inl ⟨rfl, rfl⟩) rfl rfl rfl rfl rfl rfl ?_
        refine AW_one (i := 30) (by decide +kernel) ?_
        refine gBslv (r := [.slice 3 0 3 3, .slice 2 0 3 3, .slice 1 0 3 3]) rfl rfl rfl rfl rfl rfl rfl rfl rfl rfl rfl rfl rfl rfl rfl ?_
        refine aQ 31 hst rfl rfl (by decide +kernel) (QX_of (Q_assign rfl rfl) NE_assign) rfl rfl ?_
        refine AW_done (by decide +kernel) ?_))
  all_goals with_reducible refine tN ?_
  all_goals (
   refine CW_ret ?_)
  all_goals (
   first
     | exact exitH (r0 := .slice 3 0 3 3) (H0 := [(0, .ints 2 [2 * a % p, d, e]), (1, .ints 2 [d, 2 * b % p, f]), (2, .ints 2 [e, f, 2 * c % p]), (3, .vals 103 [.slice 0 0 3 3, .slice 1 0 3 3, .slice 2 0 3 3])]) (.inr rfl) [(0, 1), (1, 2), (2, 3), (3, 4)] 4 (.cons (.tmp rfl rfl) .nil) rfl rfl rfl (vHc rfl (vHc rfl (vHc rfl (vHc rfl vHn)))) rfl rfl ⟨rfl, rfl⟩
     | exact exitH (r0 := .slice 3 0 3 3) (H0 := [(0, .ints 2 [2 * a % p, d, e]), (1, .ints 2 [d, 2 * b % p, f]), (2, .ints 2 [e, f, 2 * c % p]), (3, .vals 103 [.slice 0 0 3 3, .slice 1 0 3 3, .slice 2 0 3 3])]) (.inr rfl) [(0, 1), (1, 3), (2, 2), (3, 4)] 4 (.cons (.tmp rfl rfl) .nil) rfl rfl rfl (vHc rfl (vHc rfl (vHc rfl (vHc rfl vHn)))) rfl rfl ⟨rfl, rfl⟩
     | exact exitH (r0 := .slice 3 0 3 3) (H0 := [(0, .ints 2 [2 * a % p, d, e]), (1, .ints 2 [d, 2 * b % p, f]), (2, .ints 2 [e, f, 2 * c % p]), (3, .vals 103 [.slice 0 0 3 3, .slice 1 0 3 3, .slice 2 0 3 3])]) (.inr rfl) [(0, 2), (1, 1), (2, 3), (3, 4)] 4 (.cons (.tmp rfl rfl) .nil) rfl rfl rfl (vHc rfl (vHc rfl (vHc rfl (vHc rfl vHn)))) rfl rfl ⟨rfl, rfl⟩
     | exact exitH (r0 := .slice 3 0 3 3) (H0 := [(0, .ints 2 [2 * a % p, d, e]), (1, .ints 2 [d, 2 * b % p, f]), (2, .ints 2 [e, f, 2 * c % p]), (3, .vals 103 [.slice 0 0 3 3, .slice 1 0 3 3, .slice 2 0 3 3])]) (.inr rfl) [(0, 2), (1, 3), (2, 1), (3, 4)] 4 (.cons (.tmp rfl rfl) .nil) rfl rfl rfl (vHc rfl (vHc rfl (vHc rfl (vHc rfl vHn)))) rfl rfl ⟨rfl, rfl⟩
     | exact exitH (r0 := .slice 3 0 3 3) (H0 := [(0, .ints 2 [2 * a % p, d, e]), (1, .ints 2 [d, 2 * b % p, f]), (2, .ints 2 [e, f, 2 * c % p]), (3, .vals 103 [.slice 0 0 3 3, .slice 1 0 3 3, .slice 2 0 3 3])]) (.inr rfl) [(0, 3), (1, 1), (2, 2), (3, 4)] 4 (.cons (.tmp rfl rfl) .nil) rfl rfl rfl (vHc rfl (vHc rfl (vHc rfl (vHc rfl vHn)))) rfl rfl ⟨rfl, rfl⟩
     | exact exitH (r0 := .slice 3 0 3 3) (H0 := [(0, .ints 2 [2 * a % p, d, e]), (1, .ints 2 [d, 2 * b % p, f]), (2, .ints 2 [e, f, 2 * c % p]), (3, .vals 103 [.slice 0 0 3 3, .slice 1 0 3 3, .slice 2 0 3 3])]) (.inr rfl) [(0, 3), (1, 2), (2, 1), (3, 4)] 4 (.cons (.tmp rfl rfl) .nil) rfl rfl rfl (vHc rfl (vHc rfl (vHc rfl (vHc rfl vHn)))) rfl rfl ⟨rfl, rfl⟩)
theorem l03Rows_con (p : Int) (c : List Int) (hp : primeB p = true) (hc6 : c.length = 6) (h1 : modB p c = true) : Con Try.prog [] 78 [.int p, .arr c] [] (fun r H' => r = .slice 3 0 3 3 ∧ H' = [(0, .ints 2 ((matV p c).take 3)), (1, .ints 2 (((matV p c).drop 3).take 3)), (2, .ints 2 (((matV p c).drop 6).take 3)), (3, .vals 103 [.slice 0 0 3 3, .slice 1 0 3 3, .slice 2 0 3 3])]) := by
  match c, hc6, h1 with
  | [a, b, c, d, e, f], _, h1 =>
    have := l03Rows_con6 p a b c d e f hp h1
    have hpb := prime_bd hp
    simp only [modB, List.all_cons, List.all_nil, Bool.and_true, Bool.and_eq_true, decide_eq_true_eq] at h1
    obtain ⟨hA, hB, hC, hD, hE, hF⟩ := h1
    simp only [matV, Int.emod_eq_of_lt hD.1 (show d < p by omega), Int.emod_eq_of_lt hE.1 (show e < p by omega), Int.emod_eq_of_lt hF.1 (show f < p by omega)]
    exact this
theorem l03Polar_con3 (p : Int) (c : List Int) (x y z : Int) (hp : primeB p = true) (hc6 : c.length = 6) (h1 : modB p c = true) (h2 : sm 13 [x, y, z]) : ConQ Try.prog [] 52 [.int p, .arr c, .arr [x, y, z]] [] (.tuple [.arr (normL p (polX p c [x, y, z])), .bool (facP p (polX p c [x, y, z]) != 0)]) := by
  have hpb := prime_bd hp
  have hms := matV_sm (p := p) hp hc6
  have hml := matV_length (p := p) hc6
  have hrows := l03Rows_con p c hp hc6 h1
  unfold polX at *
  generalize matV p c = M at *
  match M, hml with
  | [m0, m1, m2, m3, m4, m5, m6, m7, m8], _ =>
    simp only [List.take, List.drop] at hrows ⊢
    have hb : ∀ w ∈ [m0, m1, m2, m3, m4, m5, m6, m7, m8], -13 ≤ w ∧ w ≤ 13 := hms
    simp only [List.mem_cons, List.not_mem_nil, or_false, forall_eq_or_imp, forall_eq] at hb
    obtain ⟨b0, b1, b2, b3, b4, b5, b6, b7, b8⟩ := hb
    obtain ⟨hx, hy, hz⟩ := sm3.1 h2
    have q0 := mul_bds b0.1 b0.2 hx.1 hx.2
    have q1 := mul_bds b1.1 b1.2 hy.1 hy.2
    have q2 := mul_bds b2.1 b2.2 hz.1 hz.2
    have q3 := mul_bds b3.1 b3.2 hx.1 hx.2
    have q4 := mul_bds b4.1 b4.2 hy.1 hy.2
    have q5 := mul_bds b5.1 b5.2 hz.1 hz.2
    have q6 := mul_bds b6.1 b6.2 hx.1 hx.2
    have q7 := mul_bds b7.1 b7.2 hy.1 hy.2
    have q8 := mul_bds b8.1 b8.2 hz.1 hz.2
    have hpe : [dotV [m0, m1, m2] [x, y, z], dotV [m3, m4, m5] [x, y, z], dotV [m6, m7, m8] [x, y, z]] = [m0 * x + m1 * y + m2 * z, m3 * x + m4 * y + m5 * z, m6 * x + m7 * y + m8 * z] := by simp [dotV, dotT]
    rw [hpe]
    have hnl := normL_length p [m0 * x + m1 * y + m2 * z, m3 * x + m4 * y + m5 * z, m6 * x + m7 * y + m8 * z]
    refine conW tab_ok [(0, .int p), (1, .arr c), (2, .arr [x, y, z])] 0 [] [] Try.func52 rfl rfl rfl rfl rfl rfl rfl rfl rfl ?_
    refine cR ?_
    iterate 2 refine oBox rfl rfl rfl rfl rfl rfl ?_
    refine oAlloc rfl rfl rfl rfl rfl rfl rfl ?_
    refine oA rfl rfl ?_
    refine oN ?_
    refine cR ?_
    refine oM rfl rfl ?_
    refine oQ (Q_ldw rfl rfl rfl rfl hc6) rfl rfl ?_
    refine oCall (hrows) [] 4 rfl rfl (Fits.mk' vHn rfl rfl (by first | (simp; done) | exact glOk rfl rfl rfl)) rfl rfl ?_
    rintro r H1 ⟨rfl, rfl⟩
    refine ⟨.slice 6 0 3 3, [(3, .ints 2 [m0, m1, m2]), (4, .ints 2 [m3, m4, m5]), (5, .ints 2 [m6, m7, m8]), (6, .vals 103 [.slice 3 0 3 3, .slice 4 0 3 3, .slice 5 0 3 3])], rfl, rfl, rfl, ?_⟩
    refine oBsl (zl := []) rfl rfl rfl rfl (.inl ⟨rfl, rfl⟩) rfl rfl rfl rfl rfl rfl ?_
    iterate 2 refine oA rfl rfl ?_
    refine oN ?_
    refine CW_seq ?_
    refine cR ?_
    refine oA rfl rfl ?_
    refine oN ?_
    refine CW_block ?_
    refine CW_rounds 4 ?_
    refine RW_succ ?_
    refine CW_seq ?_
    refine cR ?_
    refine oM rfl rfl ?_
    refine oQ (Q_bin rfl rfl rfl) rfl rfl ?_
    refine oN ?_
    first | refine cT rfl ?_ | refine cF rfl ?_ | refine CW_cond rfl (fun hc => ?_) (fun hc => ?_)
    all_goals try simp only [s1, s2, s3, s4, s5, s6, s7, s8, s9, s10, s11, s12] at hc
    all_goals try (exfalso; first | omega | (simp at hc; done); done)
    all_goals first
      | (
       refine CW_skip ?_)
      | (
       refine CW_exit ?_)
    all_goals first
      | with_reducible refine tR ?_
      | with_reducible refine tE ?_
      | (
       with_reducible refine tN ?_
       refine CW_seq ?_
       refine CW_block ?_
       refine CW_any (fun i => List.elem i [31, 32]) 33 rfl lateOk (by decide +kernel) (fun hst => ?_)
       refine aP 0 hst rfl rfl (by decide +kernel) (PX_move rfl rfl) rfl rfl ?_
       refine aP 1 hst rfl rfl (by decide +kernel) (PX_move rfl rfl) rfl rfl ?_
       refine aP 2 hst rfl rfl (by decide +kernel) (PX_move rfl rfl) rfl rfl ?_
       first | refine aQ 3 hst rfl rfl (by decide +kernel) (QX_of (Is0 rfl rfl rfl rfl rfl rfl) NE_ix) rfl rfl ?_ | refine aQ 3 hst rfl rfl (by decide +kernel) (QX_of (Is1 rfl rfl rfl rfl rfl rfl) NE_ix) rfl rfl ?_
       refine aQ 4 hst rfl rfl (by decide +kernel) (QX_of (Q_ldv rfl rfl rfl rfl rfl rfl) NE_load) rfl rfl ?_
       first | refine aQ 5 hst rfl rfl (by decide +kernel) (QX_of (Is0 rfl rfl rfl rfl rfl rfl) NE_ix) rfl rfl ?_ | refine aQ 5 hst rfl rfl (by decide +kernel) (QX_of (Is1 rfl rfl rfl rfl rfl rfl) NE_ix) rfl rfl ?_
       first | refine aQ 6 hst rfl rfl (by decide +kernel) (QX_of (Q_ldc rfl rfl rfl rfl rfl) NE_load) rfl rfl ?_ | refine aQ 6 hst rfl rfl (by decide +kernel) (QX_of (Ld rfl rfl rfl rfl) NE_load) rfl rfl ?_
       first | refine aQ 7 hst rfl rfl (by decide +kernel) (QX_of (Ia0 rfl rfl rfl rfl rfl rfl) NE_ix) rfl rfl ?_ | refine aQ 7 hst rfl rfl (by decide +kernel) (QX_of (Ia1 rfl rfl rfl rfl rfl rfl) NE_ix) rfl rfl ?_
       first | refine aQ 8 hst rfl rfl (by decide +kernel) (QX_of (Q_ldc rfl rfl rfl rfl rfl) NE_load) rfl rfl ?_ | refine aQ 8 hst rfl rfl (by decide +kernel) (QX_of (Ld rfl rfl rfl rfl) NE_load) rfl rfl ?_
       first | refine aQ 9 hst rfl rfl (by decide +kernel) (QX_of (Q_binu rfl rfl rfl (by omega)) NE_bin) rfl rfl ?_ | refine aQ 9 hst rfl rfl (by decide +kernel) (QX_of (Q_bin rfl rfl rfl) NE_bin) rfl rfl ?_
       refine aP 10 hst rfl rfl (by decide +kernel) (PX_move rfl rfl) rfl rfl ?_
       refine aP 11 hst rfl rfl (by decide +kernel) (PX_move rfl rfl) rfl rfl ?_
       first | refine aQ 12 hst rfl rfl (by decide +kernel) (QX_of (Is0 rfl rfl rfl rfl rfl rfl) NE_ix) rfl rfl ?_ | refine aQ 12 hst rfl rfl (by decide +kernel) (QX_of (Is1 rfl rfl rfl rfl rfl rfl) NE_ix) rfl rfl ?_
       refine aQ 13 hst rfl rfl (by decide +kernel) (QX_of (Q_ldv rfl rfl rfl rfl rfl rfl) NE_load) rfl rfl ?_
       first | refine aQ 14 hst rfl rfl (by decide +kernel) (QX_of (Is0 rfl rfl rfl rfl rfl rfl) NE_ix) rfl rfl ?_ | refine aQ 14 hst rfl rfl (by decide +kernel) (QX_of (Is1 rfl rfl rfl rfl rfl rfl) NE_ix) rfl rfl ?_
       first | refine aQ 15 hst rfl rfl (by decide +kernel) (QX_of (Q_ldc rfl rfl rfl rfl rfl) NE_load) rfl rfl ?_ | refine aQ 15 hst rfl rfl (by decide +kernel) (QX_of (Ld rfl rfl rfl rfl) NE_load) rfl rfl ?_
       first | refine aQ 16 hst rfl rfl (by decide +kernel) (QX_of (Ia0 rfl rfl rfl rfl rfl rfl) NE_ix) rfl rfl ?_ | refine aQ 16 hst rfl rfl (by decide +kernel) (QX_of (Ia1 rfl rfl rfl rfl rfl rfl) NE_ix) rfl rfl ?_
       first | refine aQ 17 hst rfl rfl (by decide +kernel) (QX_of (Q_ldc rfl rfl rfl rfl rfl) NE_load) rfl rfl ?_ | refine aQ 17 hst rfl rfl (by decide +kernel) (QX_of (Ld rfl rfl rfl rfl) NE_load) rfl rfl ?_
       first | refine aQ 18 hst rfl rfl (by decide +kernel) (QX_of (Q_binu rfl rfl rfl (by omega)) NE_bin) rfl rfl ?_ | refine aQ 18 hst rfl rfl (by decide +kernel) (QX_of (Q_bin rfl rfl rfl) NE_bin) rfl rfl ?_
       first | refine aP 19 hst rfl rfl (by decide +kernel) (PX_binu rfl rfl rfl (by omega)) rfl rfl ?_ | refine aP 19 hst rfl rfl (by decide +kernel) (PX_bin rfl rfl rfl) rfl rfl ?_
       refine aP 20 hst rfl rfl (by decide +kernel) (PX_move rfl rfl) rfl rfl ?_
       refine aP 21 hst rfl rfl (by decide +kernel) (PX_move rfl rfl) rfl rfl ?_
       first | refine aQ 22 hst rfl rfl (by decide +kernel) (QX_of (Is0 rfl rfl rfl rfl rfl rfl) NE_ix) rfl rfl ?_ | refine aQ 22 hst rfl rfl (by decide +kernel) (QX_of (Is1 rfl rfl rfl rfl rfl rfl) NE_ix) rfl rfl ?_
       refine aQ 23 hst rfl rfl (by decide +kernel) (QX_of (Q_ldv rfl rfl rfl rfl rfl rfl) NE_load) rfl rfl ?_
       first | refine aQ 24 hst rfl rfl (by decide +kernel) (QX_of (Is0 rfl rfl rfl rfl rfl rfl) NE_ix) rfl rfl ?_ | refine aQ 24 hst rfl rfl (by decide +kernel) (QX_of (Is1 rfl rfl rfl rfl rfl rfl) NE_ix) rfl rfl ?_
       first | refine aQ 25 hst rfl rfl (by decide +kernel) (QX_of (Q_ldc rfl rfl rfl rfl rfl) NE_load) rfl rfl ?_ | refine aQ 25 hst rfl rfl (by decide +kernel) (QX_of (Ld rfl rfl rfl rfl) NE_load) rfl rfl ?_
       first | refine aQ 26 hst rfl rfl (by decide +kernel) (QX_of (Ia0 rfl rfl rfl rfl rfl rfl) NE_ix) rfl rfl ?_ | refine aQ 26 hst rfl rfl (by decide +kernel) (QX_of (Ia1 rfl rfl rfl rfl rfl rfl) NE_ix) rfl rfl ?_
       first | refine aQ 27 hst rfl rfl (by decide +kernel) (QX_of (Q_ldc rfl rfl rfl rfl rfl) NE_load) rfl rfl ?_ | refine aQ 27 hst rfl rfl (by decide +kernel) (QX_of (Ld rfl rfl rfl rfl) NE_load) rfl rfl ?_
       first | refine aQ 28 hst rfl rfl (by decide +kernel) (QX_of (Q_binu rfl rfl rfl (by omega)) NE_bin) rfl rfl ?_ | refine aQ 28 hst rfl rfl (by decide +kernel) (QX_of (Q_bin rfl rfl rfl) NE_bin) rfl rfl ?_
       first | refine aP 29 hst rfl rfl (by decide +kernel) (PX_binu rfl rfl rfl (by omega)) rfl rfl ?_ | refine aP 29 hst rfl rfl (by decide +kernel) (PX_bin rfl rfl rfl) rfl rfl ?_
       refine AW_one (i := 30) (by decide +kernel) ?_
       refine gBsl (zl := []) (r := [_]) rfl rfl rfl rfl rfl rfl (.inl ⟨rfl, rfl⟩) rfl rfl rfl rfl rfl rfl ?_
       refine AW_last [31, 32] rfl (by decide +kernel) rfl ?_
       first | refine oApp (A := []) (sp := []) (sz := 1) (by_ := 8) rfl rfl rfl rfl rfl rfl ⟨by decide, rfl, .inl ⟨rfl, rfl⟩⟩ rfl rfl rfl rfl rfl rfl rfl rfl (by omega) (by omega) (by omega) (by omega) rfl rfl (fun k2 sp2 h1 h2 => ?_) | refine oApp (sz := 1) (by_ := 8) rfl rfl rfl rfl rfl rfl ⟨by decide, rfl, .inl ⟨rfl, rfl⟩⟩ rfl rfl rfl rfl rfl rfl rfl rfl (by omega) (by omega) (by omega) (by omega) rfl rfl (fun k2 sp2 h1 h2 => ?_)
       refine oA rfl rfl ?_
       refine OW_nil (npN ?_)
       all_goals first | with_reducible refine bN ?_ | with_reducible refine bE ?_ | with_reducible refine bR ?_ | refine bX rfl ?_
       all_goals with_reducible refine tN ?_
       all_goals (
        refine CW_region ?_
        refine oM rfl rfl ?_
        first | refine oQ (Q_binu rfl rfl rfl (by omega)) rfl rfl ?_ | refine oQ (Q_bin rfl rfl rfl) rfl rfl ?_
        refine oA rfl rfl ?_
        refine OW_nil ?_))
    all_goals first
      | with_reducible refine tR ?_
      | with_reducible refine tE ?_
      | (
       with_reducible refine tN ?_
       refine RW_succ ?_
       refine CW_seq ?_
       refine cR ?_
       refine oM rfl rfl ?_
       refine oQ (Q_bin rfl rfl rfl) rfl rfl ?_
       refine oN ?_
       first | refine cT rfl ?_ | refine cF rfl ?_ | refine CW_cond rfl (fun hc => ?_) (fun hc => ?_)
       all_goals try simp only [s1, s2, s3, s4, s5, s6, s7, s8, s9, s10, s11, s12] at hc
       all_goals try (exfalso; first | omega | (simp at hc; done); done)
       all_goals first
         | (
          refine CW_skip ?_)
         | (
          refine CW_exit ?_)
       all_goals first
         | with_reducible refine tR ?_
         | with_reducible refine tE ?_
         | (
          with_reducible refine tN ?_
          refine CW_seq ?_
          refine CW_block ?_
          refine CW_any (fun i => List.elem i [31, 32]) 33 rfl lateOk (by decide +kernel) (fun hst => ?_)
          refine aP 0 hst rfl rfl (by decide +kernel) (PX_move rfl rfl) rfl rfl ?_
          refine aP 1 hst rfl rfl (by decide +kernel) (PX_move rfl rfl) rfl rfl ?_
          refine aP 2 hst rfl rfl (by decide +kernel) (PX_move rfl rfl) rfl rfl ?_
          first | refine aQ 3 hst rfl rfl (by decide +kernel) (QX_of (Is0 rfl rfl rfl rfl rfl rfl) NE_ix) rfl rfl ?_ | refine aQ 3 hst rfl rfl (by decide +kernel) (QX_of (Is1 rfl rfl rfl rfl rfl rfl) NE_ix) rfl rfl ?_
          refine aQ 4 hst rfl rfl (by decide +kernel) (QX_of (Q_ldv rfl rfl rfl rfl rfl rfl) NE_load) rfl rfl ?_
          first | refine aQ 5 hst rfl rfl (by decide +kernel) (QX_of (Is0 rfl rfl rfl rfl rfl rfl) NE_ix) rfl rfl ?_ | refine aQ 5 hst rfl rfl (by decide +kernel) (QX_of (Is1 rfl rfl rfl rfl rfl rfl) NE_ix) rfl rfl ?_
          first | refine aQ 6 hst rfl rfl (by decide +kernel) (QX_of (Q_ldc rfl rfl rfl rfl rfl) NE_load) rfl rfl ?_ | refine aQ 6 hst rfl rfl (by decide +kernel) (QX_of (Ld rfl rfl rfl rfl) NE_load) rfl rfl ?_
          first | refine aQ 7 hst rfl rfl (by decide +kernel) (QX_of (Ia0 rfl rfl rfl rfl rfl rfl) NE_ix) rfl rfl ?_ | refine aQ 7 hst rfl rfl (by decide +kernel) (QX_of (Ia1 rfl rfl rfl rfl rfl rfl) NE_ix) rfl rfl ?_
          first | refine aQ 8 hst rfl rfl (by decide +kernel) (QX_of (Q_ldc rfl rfl rfl rfl rfl) NE_load) rfl rfl ?_ | refine aQ 8 hst rfl rfl (by decide +kernel) (QX_of (Ld rfl rfl rfl rfl) NE_load) rfl rfl ?_
          first | refine aQ 9 hst rfl rfl (by decide +kernel) (QX_of (Q_binu rfl rfl rfl (by omega)) NE_bin) rfl rfl ?_ | refine aQ 9 hst rfl rfl (by decide +kernel) (QX_of (Q_bin rfl rfl rfl) NE_bin) rfl rfl ?_
          refine aP 10 hst rfl rfl (by decide +kernel) (PX_move rfl rfl) rfl rfl ?_
          refine aP 11 hst rfl rfl (by decide +kernel) (PX_move rfl rfl) rfl rfl ?_
          first | refine aQ 12 hst rfl rfl (by decide +kernel) (QX_of (Is0 rfl rfl rfl rfl rfl rfl) NE_ix) rfl rfl ?_ | refine aQ 12 hst rfl rfl (by decide +kernel) (QX_of (Is1 rfl rfl rfl rfl rfl rfl) NE_ix) rfl rfl ?_
          refine aQ 13 hst rfl rfl (by decide +kernel) (QX_of (Q_ldv rfl rfl rfl rfl rfl rfl) NE_load) rfl rfl ?_
          first | refine aQ 14 hst rfl rfl (by decide +kernel) (QX_of (Is0 rfl rfl rfl rfl rfl rfl) NE_ix) rfl rfl ?_ | refine aQ 14 hst rfl rfl (by decide +kernel) (QX_of (Is1 rfl rfl rfl rfl rfl rfl) NE_ix) rfl rfl ?_
          first | refine aQ 15 hst rfl rfl (by decide +kernel) (QX_of (Q_ldc rfl rfl rfl rfl rfl) NE_load) rfl rfl ?_ | refine aQ 15 hst rfl rfl (by decide +kernel) (QX_of (Ld rfl rfl rfl rfl) NE_load) rfl rfl ?_
          first | refine aQ 16 hst rfl rfl (by decide +kernel) (QX_of (Ia0 rfl rfl rfl rfl rfl rfl) NE_ix) rfl rfl ?_ | refine aQ 16 hst rfl rfl (by decide +kernel) (QX_of (Ia1 rfl rfl rfl rfl rfl rfl) NE_ix) rfl rfl ?_
          first | refine aQ 17 hst rfl rfl (by decide +kernel) (QX_of (Q_ldc rfl rfl rfl rfl rfl) NE_load) rfl rfl ?_ | refine aQ 17 hst rfl rfl (by decide +kernel) (QX_of (Ld rfl rfl rfl rfl) NE_load) rfl rfl ?_
          first | refine aQ 18 hst rfl rfl (by decide +kernel) (QX_of (Q_binu rfl rfl rfl (by omega)) NE_bin) rfl rfl ?_ | refine aQ 18 hst rfl rfl (by decide +kernel) (QX_of (Q_bin rfl rfl rfl) NE_bin) rfl rfl ?_
          first | refine aP 19 hst rfl rfl (by decide +kernel) (PX_binu rfl rfl rfl (by omega)) rfl rfl ?_ | refine aP 19 hst rfl rfl (by decide +kernel) (PX_bin rfl rfl rfl) rfl rfl ?_
          refine aP 20 hst rfl rfl (by decide +kernel) (PX_move rfl rfl) rfl rfl ?_
          refine aP 21 hst rfl rfl (by decide +kernel) (PX_move rfl rfl) rfl rfl ?_
          first | refine aQ 22 hst rfl rfl (by decide +kernel) (QX_of (Is0 rfl rfl rfl rfl rfl rfl) NE_ix) rfl rfl ?_ | refine aQ 22 hst rfl rfl (by decide +kernel) (QX_of (Is1 rfl rfl rfl rfl rfl rfl) NE_ix) rfl rfl ?_
          refine aQ 23 hst rfl rfl (by decide +kernel) (QX_of (Q_ldv rfl rfl rfl rfl rfl rfl) NE_load) rfl rfl ?_
          first | refine aQ 24 hst rfl rfl (by decide +kernel) (QX_of (Is0 rfl rfl rfl rfl rfl rfl) NE_ix) rfl rfl ?_ | refine aQ 24 hst rfl rfl (by decide +kernel) (QX_of (Is1 rfl rfl rfl rfl rfl rfl) NE_ix) rfl rfl ?_
          first | refine aQ 25 hst rfl rfl (by decide +kernel) (QX_of (Q_ldc rfl rfl rfl rfl rfl) NE_load) rfl rfl ?_ | refine aQ 25 hst rfl rfl (by decide +kernel) (QX_of (Ld rfl rfl rfl rfl) NE_load) rfl rfl ?_
          first | refine aQ 26 hst rfl rfl (by decide +kernel) (QX_of (Ia0 rfl rfl rfl rfl rfl rfl) NE_ix) rfl rfl ?_ | refine aQ 26 hst rfl rfl (by decide +kernel) (QX_of (Ia1 rfl rfl rfl rfl rfl rfl) NE_ix) rfl rfl ?_
          first | refine aQ 27 hst rfl rfl (by decide +kernel) (QX_of (Q_ldc rfl rfl rfl rfl rfl) NE_load) rfl rfl ?_ | refine aQ 27 hst rfl rfl (by decide +kernel) (QX_of (Ld rfl rfl rfl rfl) NE_load) rfl rfl ?_
          first | refine aQ 28 hst rfl rfl (by decide +kernel) (QX_of (Q_binu rfl rfl rfl (by omega)) NE_bin) rfl rfl ?_ | refine aQ 28 hst rfl rfl (by decide +kernel) (QX_of (Q_bin rfl rfl rfl) NE_bin) rfl rfl ?_
          first | refine aP 29 hst rfl rfl (by decide +kernel) (PX_binu rfl rfl rfl (by omega)) rfl rfl ?_ | refine aP 29 hst rfl rfl (by decide +kernel) (PX_bin rfl rfl rfl) rfl rfl ?_
          refine AW_one (i := 30) (by decide +kernel) ?_
          refine gBsl (zl := []) (r := [_]) rfl rfl rfl rfl rfl rfl (.inl ⟨rfl, rfl⟩) rfl rfl rfl rfl rfl rfl ?_
          refine AW_last [31, 32] rfl (by decide +kernel) rfl ?_
          first | refine oApp (A := []) (sp := []) (sz := 1) (by_ := 8) rfl rfl rfl rfl rfl rfl ⟨by decide, rfl, .inl ⟨rfl, rfl⟩⟩ rfl rfl rfl rfl rfl rfl rfl rfl (by omega) (by omega) (by omega) (by omega) rfl rfl (fun k2 sp2 h1 h2 => ?_) | refine oApp (sz := 1) (by_ := 8) rfl rfl rfl rfl rfl rfl ⟨by decide, rfl, .inl ⟨rfl, rfl⟩⟩ rfl rfl rfl rfl rfl rfl rfl rfl (by omega) (by omega) (by omega) (by omega) rfl rfl (fun k2 sp2 h1 h2 => ?_)
          refine oA rfl rfl ?_
          refine OW_nil (npN ?_)
          all_goals first | with_reducible refine bN ?_ | with_reducible refine bE ?_ | with_reducible refine bR ?_ | refine bX rfl ?_
          all_goals with_reducible refine tN ?_
          all_goals (
           refine CW_region ?_
           refine oM rfl rfl ?_
           first | refine oQ (Q_binu rfl rfl rfl (by omega)) rfl rfl ?_ | refine oQ (Q_bin rfl rfl rfl) rfl rfl ?_
           refine oA rfl rfl ?_
           refine OW_nil ?_))
       all_goals first
         | with_reducible refine tR ?_
         | with_reducible refine tE ?_
         | (
          with_reducible refine tN ?_
          refine RW_succ ?_
          refine CW_seq ?_
          refine cR ?_
          refine oM rfl rfl ?_
          refine oQ (Q_bin rfl rfl rfl) rfl rfl ?_
          refine oN ?_
          first | refine cT rfl ?_ | refine cF rfl ?_ | refine CW_cond rfl (fun hc => ?_) (fun hc => ?_)
          all_goals try simp only [s1, s2, s3, s4, s5, s6, s7, s8, s9, s10, s11, s12] at hc
          all_goals try (exfalso; first | omega | (simp at hc; done); done)
          all_goals first
            | (
             refine CW_skip ?_)
            | (
             refine CW_exit ?_)
          all_goals first
            | with_reducible refine tR ?_
            | with_reducible refine tE ?_
            | (
             with_reducible refine tN ?_
             refine CW_seq ?_
             refine CW_block ?_
             refine CW_any (fun i => List.elem i [31, 32]) 33 rfl lateOk (by decide +kernel) (fun hst => ?_)
             refine aP 0 hst rfl rfl (by decide +kernel) (PX_move rfl rfl) rfl rfl ?_
             refine aP 1 hst rfl rfl (by decide +kernel) (PX_move rfl rfl) rfl rfl ?_
             refine aP 2 hst rfl rfl (by decide +kernel) (PX_move rfl rfl) rfl rfl ?_
             first | refine aQ 3 hst rfl rfl (by decide +kernel) (QX_of (Is0 rfl rfl rfl rfl rfl rfl) NE_ix) rfl rfl ?_ | refine aQ 3 hst rfl rfl (by decide +kernel) (QX_of (Is1 rfl rfl rfl rfl rfl rfl) NE_ix) rfl rfl ?_
             refine aQ 4 hst rfl rfl (by decide +kernel) (QX_of (Q_ldv rfl rfl rfl rfl rfl rfl) NE_load) rfl rfl ?_
             first | refine aQ 5 hst rfl rfl (by decide +kernel) (QX_of (Is0 rfl rfl rfl rfl rfl rfl) NE_ix) rfl rfl ?_ | refine aQ 5 hst rfl rfl (by decide +kernel) (QX_of (Is1 rfl rfl rfl rfl rfl rfl) NE_ix) rfl rfl ?_
             first | refine aQ 6 hst rfl rfl (by decide +kernel) (QX_of (Q_ldc rfl rfl rfl rfl rfl) NE_load) rfl rfl ?_ | refine aQ 6 hst rfl rfl (by decide +kernel) (QX_of (Ld rfl rfl rfl rfl) NE_load) rfl rfl ?_
             first | refine aQ 7 hst rfl rfl (by decide +kernel) (QX_of (Ia0 rfl rfl rfl rfl rfl rfl) NE_ix) rfl rfl ?_ | refine aQ 7 hst rfl rfl (by decide +kernel) (QX_of (Ia1 rfl rfl rfl rfl rfl rfl) NE_ix) rfl rfl ?_
             first | refine aQ 8 hst rfl rfl (by decide +kernel) (QX_of (Q_ldc rfl rfl rfl rfl rfl) NE_load) rfl rfl ?_ | refine aQ 8 hst rfl rfl (by decide +kernel) (QX_of (Ld rfl rfl rfl rfl) NE_load) rfl rfl ?_
             first | refine aQ 9 hst rfl rfl (by decide +kernel) (QX_of (Q_binu rfl rfl rfl (by omega)) NE_bin) rfl rfl ?_ | refine aQ 9 hst rfl rfl (by decide +kernel) (QX_of (Q_bin rfl rfl rfl) NE_bin) rfl rfl ?_
             refine aP 10 hst rfl rfl (by decide +kernel) (PX_move rfl rfl) rfl rfl ?_
             refine aP 11 hst rfl rfl (by decide +kernel) (PX_move rfl rfl) rfl rfl ?_
             first | refine aQ 12 hst rfl rfl (by decide +kernel) (QX_of (Is0 rfl rfl rfl rfl rfl rfl) NE_ix) rfl rfl ?_ | refine aQ 12 hst rfl rfl (by decide +kernel) (QX_of (Is1 rfl rfl rfl rfl rfl rfl) NE_ix) rfl rfl ?_
             refine aQ 13 hst rfl rfl (by decide +kernel) (QX_of (Q_ldv rfl rfl rfl rfl rfl rfl) NE_load) rfl rfl ?_
             first | refine aQ 14 hst rfl rfl (by decide +kernel) (QX_of (Is0 rfl rfl rfl rfl rfl rfl) NE_ix) rfl rfl ?_ | refine aQ 14 hst rfl rfl (by decide +kernel) (QX_of (Is1 rfl rfl rfl rfl rfl rfl) NE_ix) rfl rfl ?_
             first | refine aQ 15 hst rfl rfl (by decide +kernel) (QX_of (Q_ldc rfl rfl rfl rfl rfl) NE_load) rfl rfl ?_ | refine aQ 15 hst rfl rfl (by decide +kernel) (QX_of (Ld rfl rfl rfl rfl) NE_load) rfl rfl ?_
             first | refine aQ 16 hst rfl rfl (by decide +kernel) (QX_of (Ia0 rfl rfl rfl rfl rfl rfl) NE_ix) rfl rfl ?_ | refine aQ 16 hst rfl rfl (by decide +kernel) (QX_of (Ia1 rfl rfl rfl rfl rfl rfl) NE_ix) rfl rfl ?_
             first | refine aQ 17 hst rfl rfl (by decide +kernel) (QX_of (Q_ldc rfl rfl rfl rfl rfl) NE_load) rfl rfl ?_ | refine aQ 17 hst rfl rfl (by decide +kernel) (QX_of (Ld rfl rfl rfl rfl) NE_load) rfl rfl ?_
             first | refine aQ 18 hst rfl rfl (by decide +kernel) (QX_of (Q_binu rfl rfl rfl (by omega)) NE_bin) rfl rfl ?_ | refine aQ 18 hst rfl rfl (by decide +kernel) (QX_of (Q_bin rfl rfl rfl) NE_bin) rfl rfl ?_
             first | refine aP 19 hst rfl rfl (by decide +kernel) (PX_binu rfl rfl rfl (by omega)) rfl rfl ?_ | refine aP 19 hst rfl rfl (by decide +kernel) (PX_bin rfl rfl rfl) rfl rfl ?_
             refine aP 20 hst rfl rfl (by decide +kernel) (PX_move rfl rfl) rfl rfl ?_
             refine aP 21 hst rfl rfl (by decide +kernel) (PX_move rfl rfl) rfl rfl ?_
             first | refine aQ 22 hst rfl rfl (by decide +kernel) (QX_of (Is0 rfl rfl rfl rfl rfl rfl) NE_ix) rfl rfl ?_ | refine aQ 22 hst rfl rfl (by decide +kernel) (QX_of (Is1 rfl rfl rfl rfl rfl rfl) NE_ix) rfl rfl ?_
             refine aQ 23 hst rfl rfl (by decide +kernel) (QX_of (Q_ldv rfl rfl rfl rfl rfl rfl) NE_load) rfl rfl ?_
             first | refine aQ 24 hst rfl rfl (by decide +kernel) (QX_of (Is0 rfl rfl rfl rfl rfl rfl) NE_ix) rfl rfl ?_ | refine aQ 24 hst rfl rfl (by decide +kernel) (QX_of (Is1 rfl rfl rfl rfl rfl rfl) NE_ix) rfl rfl ?_
             first | refine aQ 25 hst rfl rfl (by decide +kernel) (QX_of (Q_ldc rfl rfl rfl rfl rfl) NE_load) rfl rfl ?_ | refine aQ 25 hst rfl rfl (by decide +kernel) (QX_of (Ld rfl rfl rfl rfl) NE_load) rfl rfl ?_
             first | refine aQ 26 hst rfl rfl (by decide +kernel) (QX_of (Ia0 rfl rfl rfl rfl rfl rfl) NE_ix) rfl rfl ?_ | refine aQ 26 hst rfl rfl (by decide +kernel) (QX_of (Ia1 rfl rfl rfl rfl rfl rfl) NE_ix) rfl rfl ?_
             first | refine aQ 27 hst rfl rfl (by decide +kernel) (QX_of (Q_ldc rfl rfl rfl rfl rfl) NE_load) rfl rfl ?_ | refine aQ 27 hst rfl rfl (by decide +kernel) (QX_of (Ld rfl rfl rfl rfl) NE_load) rfl rfl ?_
             first | refine aQ 28 hst rfl rfl (by decide +kernel) (QX_of (Q_binu rfl rfl rfl (by omega)) NE_bin) rfl rfl ?_ | refine aQ 28 hst rfl rfl (by decide +kernel) (QX_of (Q_bin rfl rfl rfl) NE_bin) rfl rfl ?_
             first | refine aP 29 hst rfl rfl (by decide +kernel) (PX_binu rfl rfl rfl (by omega)) rfl rfl ?_ | refine aP 29 hst rfl rfl (by decide +kernel) (PX_bin rfl rfl rfl) rfl rfl ?_
             refine AW_one (i := 30) (by decide +kernel) ?_
             refine gBsl (zl := []) (r := [_]) rfl rfl rfl rfl rfl rfl (.inl ⟨rfl, rfl⟩) rfl rfl rfl rfl rfl rfl ?_
             refine AW_last [31, 32] rfl (by decide +kernel) rfl ?_
             first | refine oApp (A := []) (sp := []) (sz := 1) (by_ := 8) rfl rfl rfl rfl rfl rfl ⟨by decide, rfl, .inl ⟨rfl, rfl⟩⟩ rfl rfl rfl rfl rfl rfl rfl rfl (by omega) (by omega) (by omega) (by omega) rfl rfl (fun k2 sp2 h1 h2 => ?_) | refine oApp (sz := 1) (by_ := 8) rfl rfl rfl rfl rfl rfl ⟨by decide, rfl, .inl ⟨rfl, rfl⟩⟩ rfl rfl rfl rfl rfl rfl rfl rfl (by omega) (by omega) (by omega) (by omega) rfl rfl (fun k2 sp2 h1 h2 => ?_)
             refine oA rfl rfl ?_
             refine OW_nil (npN ?_)
             all_goals first | with_reducible refine bN ?_ | with_reducible refine bE ?_ | with_reducible refine bR ?_ | refine bX rfl ?_
             all_goals with_reducible refine tN ?_
             all_goals (
              refine CW_region ?_
              refine oM rfl rfl ?_
              first | refine oQ (Q_binu rfl rfl rfl (by omega)) rfl rfl ?_ | refine oQ (Q_bin rfl rfl rfl) rfl rfl ?_
              refine oA rfl rfl ?_
              refine OW_nil ?_))
          all_goals first
            | with_reducible refine tR ?_
            | with_reducible refine tE ?_
            | (
             with_reducible refine tN ?_
             refine RW_succ ?_
             refine CW_seq ?_
             refine cR ?_
             refine oM rfl rfl ?_
             refine oQ (Q_bin rfl rfl rfl) rfl rfl ?_
             refine oN ?_
             first | refine cT rfl ?_ | refine cF rfl ?_ | refine CW_cond rfl (fun hc => ?_) (fun hc => ?_)
             all_goals try simp only [s1, s2, s3, s4, s5, s6, s7, s8, s9, s10, s11, s12] at hc
             all_goals try (exfalso; first | omega | (simp at hc; done); done)
             all_goals first
               | (
                refine CW_skip ?_)
               | (
                refine CW_exit ?_)
             all_goals first
               | with_reducible refine tR ?_
               | with_reducible refine tE ?_
               | (
                with_reducible refine tN ?_
                refine CW_seq ?_
                refine CW_block ?_
                refine CW_any (fun i => List.elem i [31, 32]) 33 rfl lateOk (by decide +kernel) (fun hst => ?_)
                refine aP 0 hst rfl rfl (by decide +kernel) (PX_move rfl rfl) rfl rfl ?_
                refine aP 1 hst rfl rfl (by decide +kernel) (PX_move rfl rfl) rfl rfl ?_
                refine aP 2 hst rfl rfl (by decide +kernel) (PX_move rfl rfl) rfl rfl ?_
                first | refine aQ 3 hst rfl rfl (by decide +kernel) (QX_of (Is0 rfl rfl rfl rfl rfl rfl) NE_ix) rfl rfl ?_ | refine aQ 3 hst rfl rfl (by decide +kernel) (QX_of (Is1 rfl rfl rfl rfl rfl rfl) NE_ix) rfl rfl ?_
                refine aQ 4 hst rfl rfl (by decide +kernel) (QX_of (Q_ldv rfl rfl rfl rfl rfl rfl) NE_load) rfl rfl ?_
                first | refine aQ 5 hst rfl rfl (by decide +kernel) (QX_of (Is0 rfl rfl rfl rfl rfl rfl) NE_ix) rfl rfl ?_ | refine aQ 5 hst rfl rfl (by decide +kernel) (QX_of (Is1 rfl rfl rfl rfl rfl rfl) NE_ix) rfl rfl ?_
                first | refine aQ 6 hst rfl rfl (by decide +kernel) (QX_of (Q_ldc rfl rfl rfl rfl rfl) NE_load) rfl rfl ?_ | refine aQ 6 hst rfl rfl (by decide +kernel) (QX_of (Ld rfl rfl rfl rfl) NE_load) rfl rfl ?_
                first | refine aQ 7 hst rfl rfl (by decide +kernel) (QX_of (Ia0 rfl rfl rfl rfl rfl rfl) NE_ix) rfl rfl ?_ | refine aQ 7 hst rfl rfl (by decide +kernel) (QX_of (Ia1 rfl rfl rfl rfl rfl rfl) NE_ix) rfl rfl ?_
                first | refine aQ 8 hst rfl rfl (by decide +kernel) (QX_of (Q_ldc rfl rfl rfl rfl rfl) NE_load) rfl rfl ?_ | refine aQ 8 hst rfl rfl (by decide +kernel) (QX_of (Ld rfl rfl rfl rfl) NE_load) rfl rfl ?_
                first | refine aQ 9 hst rfl rfl (by decide +kernel) (QX_of (Q_binu rfl rfl rfl (by omega)) NE_bin) rfl rfl ?_ | refine aQ 9 hst rfl rfl (by decide +kernel) (QX_of (Q_bin rfl rfl rfl) NE_bin) rfl rfl ?_
                refine aP 10 hst rfl rfl (by decide +kernel) (PX_move rfl rfl) rfl rfl ?_
                refine aP 11 hst rfl rfl (by decide +kernel) (PX_move rfl rfl) rfl rfl ?_
                first | refine aQ 12 hst rfl rfl (by decide +kernel) (QX_of (Is0 rfl rfl rfl rfl rfl rfl) NE_ix) rfl rfl ?_ | refine aQ 12 hst rfl rfl (by decide +kernel) (QX_of (Is1 rfl rfl rfl rfl rfl rfl) NE_ix) rfl rfl ?_
                refine aQ 13 hst rfl rfl (by decide +kernel) (QX_of (Q_ldv rfl rfl rfl rfl rfl rfl) NE_load) rfl rfl ?_
                first | refine aQ 14 hst rfl rfl (by decide +kernel) (QX_of (Is0 rfl rfl rfl rfl rfl rfl) NE_ix) rfl rfl ?_ | refine aQ 14 hst rfl rfl (by decide +kernel) (QX_of (Is1 rfl rfl rfl rfl rfl rfl) NE_ix) rfl rfl ?_
                first | refine aQ 15 hst rfl rfl (by decide +kernel) (QX_of (Q_ldc rfl rfl rfl rfl rfl) NE_load) rfl rfl ?_ | refine aQ 15 hst rfl rfl (by decide +kernel) (QX_of (Ld rfl rfl rfl rfl) NE_load) rfl rfl ?_
                first | refine aQ 16 hst rfl rfl (by decide +kernel) (QX_of (Ia0 rfl rfl rfl rfl rfl rfl) NE_ix) rfl rfl ?_ | refine aQ 16 hst rfl rfl (by decide +kernel) (QX_of (Ia1 rfl rfl rfl rfl rfl rfl) NE_ix) rfl rfl ?_
                first | refine aQ 17 hst rfl rfl (by decide +kernel) (QX_of (Q_ldc rfl rfl rfl rfl rfl) NE_load) rfl rfl ?_ | refine aQ 17 hst rfl rfl (by decide +kernel) (QX_of (Ld rfl rfl rfl rfl) NE_load) rfl rfl ?_
                first | refine aQ 18 hst rfl rfl (by decide +kernel) (QX_of (Q_binu rfl rfl rfl (by omega)) NE_bin) rfl rfl ?_ | refine aQ 18 hst rfl rfl (by decide +kernel) (QX_of (Q_bin rfl rfl rfl) NE_bin) rfl rfl ?_
                first | refine aP 19 hst rfl rfl (by decide +kernel) (PX_binu rfl rfl rfl (by omega)) rfl rfl ?_ | refine aP 19 hst rfl rfl (by decide +kernel) (PX_bin rfl rfl rfl) rfl rfl ?_
                refine aP 20 hst rfl rfl (by decide +kernel) (PX_move rfl rfl) rfl rfl ?_
                refine aP 21 hst rfl rfl (by decide +kernel) (PX_move rfl rfl) rfl rfl ?_
                first | refine aQ 22 hst rfl rfl (by decide +kernel) (QX_of (Is0 rfl rfl rfl rfl rfl rfl) NE_ix) rfl rfl ?_ | refine aQ 22 hst rfl rfl (by decide +kernel) (QX_of (Is1 rfl rfl rfl rfl rfl rfl) NE_ix) rfl rfl ?_
                refine aQ 23 hst rfl rfl (by decide +kernel) (QX_of (Q_ldv rfl rfl rfl rfl rfl rfl) NE_load) rfl rfl ?_
                first | refine aQ 24 hst rfl rfl (by decide +kernel) (QX_of (Is0 rfl rfl rfl rfl rfl rfl) NE_ix) rfl rfl ?_ | refine aQ 24 hst rfl rfl (by decide +kernel) (QX_of (Is1 rfl rfl rfl rfl rfl rfl) NE_ix) rfl rfl ?_
                first | refine aQ 25 hst rfl rfl (by decide +kernel) (QX_of (Q_ldc rfl rfl rfl rfl rfl) NE_load) rfl rfl ?_ | refine aQ 25 hst rfl rfl (by decide +kernel) (QX_of (Ld rfl rfl rfl rfl) NE_load) rfl rfl ?_
                first | refine aQ 26 hst rfl rfl (by decide +kernel) (QX_of (Ia0 rfl rfl rfl rfl rfl rfl) NE_ix) rfl rfl ?_ | refine aQ 26 hst rfl rfl (by decide +kernel) (QX_of (Ia1 rfl rfl rfl rfl rfl rfl) NE_ix) rfl rfl ?_
                first | refine aQ 27 hst rfl rfl (by decide +kernel) (QX_of (Q_ldc rfl rfl rfl rfl rfl) NE_load) rfl rfl ?_ | refine aQ 27 hst rfl rfl (by decide +kernel) (QX_of (Ld rfl rfl rfl rfl) NE_load) rfl rfl ?_
                first | refine aQ 28 hst rfl rfl (by decide +kernel) (QX_of (Q_binu rfl rfl rfl (by omega)) NE_bin) rfl rfl ?_ | refine aQ 28 hst rfl rfl (by decide +kernel) (QX_of (Q_bin rfl rfl rfl) NE_bin) rfl rfl ?_
                first | refine aP 29 hst rfl rfl (by decide +kernel) (PX_binu rfl rfl rfl (by omega)) rfl rfl ?_ | refine aP 29 hst rfl rfl (by decide +kernel) (PX_bin rfl rfl rfl) rfl rfl ?_
                refine AW_one (i := 30) (by decide +kernel) ?_
                refine gBsl (zl := []) (r := [_]) rfl rfl rfl rfl rfl rfl (.inl ⟨rfl, rfl⟩) rfl rfl rfl rfl rfl rfl ?_
                refine AW_last [31, 32] rfl (by decide +kernel) rfl ?_
                first | refine oApp (A := []) (sp := []) (sz := 1) (by_ := 8) rfl rfl rfl rfl rfl rfl ⟨by decide, rfl, .inl ⟨rfl, rfl⟩⟩ rfl rfl rfl rfl rfl rfl rfl rfl (by omega) (by omega) (by omega) (by omega) rfl rfl (fun k2 sp2 h1 h2 => ?_) | refine oApp (sz := 1) (by_ := 8) rfl rfl rfl rfl rfl rfl ⟨by decide, rfl, .inl ⟨rfl, rfl⟩⟩ rfl rfl rfl rfl rfl rfl rfl rfl (by omega) (by omega) (by omega) (by omega) rfl rfl (fun k2 sp2 h1 h2 => ?_)
                refine oA rfl rfl ?_
                refine OW_nil (npN ?_)
                all_goals first | with_reducible refine bN ?_ | with_reducible refine bE ?_ | with_reducible refine bR ?_ | refine bX rfl ?_
                all_goals with_reducible refine tN ?_
                all_goals (
                 refine CW_region ?_
                 refine oM rfl rfl ?_
                 first | refine oQ (Q_binu rfl rfl rfl (by omega)) rfl rfl ?_ | refine oQ (Q_bin rfl rfl rfl) rfl rfl ?_
                 refine oA rfl rfl ?_
                 refine OW_nil ?_))
             all_goals first
               | with_reducible refine tR ?_
               | with_reducible refine tE ?_
               | (
                with_reducible refine tN ?_
                exfalso; first | omega | (simp at hc; done) | (simp_all; done)))))
    all_goals first | with_reducible refine bN ?_ | with_reducible refine bE ?_ | with_reducible refine bR ?_ | refine bX rfl ?_
    all_goals with_reducible refine tN ?_
    all_goals (
     refine CW_seq ?_
     refine CW_any (fun i => List.elem i [15, 16]) 17 rfl lateOk (by decide +kernel) (fun hst => ?_)
     refine aP 0 hst rfl rfl (by decide +kernel) (PX_move rfl rfl) rfl rfl ?_
     refine aP 1 hst rfl rfl (by decide +kernel) (PX_move rfl rfl) rfl rfl ?_
     first | refine aQ 2 hst rfl rfl (by decide +kernel) (QX_of (Is0 rfl rfl rfl rfl rfl rfl) NE_ix) rfl rfl ?_ | refine aQ 2 hst rfl rfl (by decide +kernel) (QX_of (Is1 rfl rfl rfl rfl rfl rfl) NE_ix) rfl rfl ?_
     first | refine aQ 3 hst rfl rfl (by decide +kernel) (QX_of (Q_ldc rfl rfl rfl rfl rfl) NE_load) rfl rfl ?_ | refine aQ 3 hst rfl rfl (by decide +kernel) (QX_of (Ld rfl rfl rfl rfl) NE_load) rfl rfl ?_
     refine aP 4 hst rfl rfl (by decide +kernel) (PX_move rfl rfl) rfl rfl ?_
     first | refine aQ 5 hst rfl rfl (by decide +kernel) (QX_of (Is0 rfl rfl rfl rfl rfl rfl) NE_ix) rfl rfl ?_ | refine aQ 5 hst rfl rfl (by decide +kernel) (QX_of (Is1 rfl rfl rfl rfl rfl rfl) NE_ix) rfl rfl ?_
     first | refine aQ 6 hst rfl rfl (by decide +kernel) (QX_of (Q_ldc rfl rfl rfl rfl rfl) NE_load) rfl rfl ?_ | refine aQ 6 hst rfl rfl (by decide +kernel) (QX_of (Ld rfl rfl rfl rfl) NE_load) rfl rfl ?_
     refine aP 7 hst rfl rfl (by decide +kernel) (PX_move rfl rfl) rfl rfl ?_
     first | refine aQ 8 hst rfl rfl (by decide +kernel) (QX_of (Is0 rfl rfl rfl rfl rfl rfl) NE_ix) rfl rfl ?_ | refine aQ 8 hst rfl rfl (by decide +kernel) (QX_of (Is1 rfl rfl rfl rfl rfl rfl) NE_ix) rfl rfl ?_
     first | refine aQ 9 hst rfl rfl (by decide +kernel) (QX_of (Q_ldc rfl rfl rfl rfl rfl) NE_load) rfl rfl ?_ | refine aQ 9 hst rfl rfl (by decide +kernel) (QX_of (Ld rfl rfl rfl rfl) NE_load) rfl rfl ?_
     refine aQ 10 hst rfl rfl (by decide +kernel) (QX_call0 (l01Made_con p _ _ _ hp) rfl rfl rfl) rfl rfl ?_
     refine aP 11 hst rfl rfl (by decide +kernel) (PX_move rfl rfl) rfl rfl ?_
     refine aExt 12 hst rfl rfl (by decide +kernel) rfl rfl rfl rfl ?_
     refine aExt 13 hst rfl rfl (by decide +kernel) rfl rfl rfl rfl ?_
     refine AW_one (i := 14) (by decide +kernel) ?_
     refine gAlloc rfl rfl rfl rfl rfl rfl rfl rfl rfl ?_
     refine AW_last [15, 16] rfl (by decide +kernel) rfl ?_
     first | refine oSw rfl rfl rfl rfl ?_ | refine oSa rfl rfl rfl rfl ?_
     refine oA rfl rfl ?_
     refine OW_nil (npN ?_)
     all_goals with_reducible refine tN ?_
     all_goals (
      refine cR ?_
      first | refine oQ (Lw rfl rfl rfl rfl) rfl rfl ?_ | refine oQ (La rfl rfl rfl rfl rfl) rfl rfl ?_
      refine oM rfl rfl ?_
      first | refine oSw rfl rfl rfl rfl ?_ | refine oSa rfl rfl rfl rfl ?_
      refine oA rfl rfl ?_
      refine oN ?_
      refine CW_ret ?_))
    all_goals (
     ((refine exitQ (.inr rfl) 0 (.cons (.arr rfl rfl rfl rfl (by first | omega | (dsimp only; omega) | (simp; omega) | (simp; done))) (.cons (.tmp rfl rfl) .nil)) ?_ rfl vHn rfl rfl); rfl))
theorem l03Polar_con (p : Int) (c a : List Int) (hp : primeB p = true) (hc6 : c.length = 6) (ha3 : a.length = 3) (h1 : modB p c = true) (h2 : sm 13 a) : ConQ Try.prog [] 52 [.int p, .arr c, .arr a] [] (.tuple [.arr (normL p (polX p c a)), .bool (facP p (polX p c a) != 0)]) := by
  match a, ha3, h2 with
  | [x, y, z], _, h2 => exact l03Polar_con3 p c x y z hp hc6 h1 h2
end Go.Proofs.Ytoiolpgmilobnaa
namespace Go.Proofs.Ytoiolpgmilobnaa
/-! ### a line has p + 1 points -/
abbrev N3 := Nat × Nat × Nat
end Go.Proofs.Ytoiolpgmilobnaa
namespace Go.Proofs.Ytoiolpgmilobnaa
theorem point_mem {p : Int} {a : List Int} (ha : a.length = 3) (h : pointB p a = true) : a ∈ allPts p := by
  match a, ha with
  | [x, y, z], _ =>
    have hp := pointB_prime h
    have hb := prime_bd hp
    have hm := mod_list (pointB_mod h)
    simp only [pointB, normB, Bool.and_eq_true, beq_iff_eq] at h
    have hf := h.2.2
    have hx := hm x (by simp)
    have hy := hm y (by simp)
    have hz := hm z (by simp)
    have hof : ∀ w : Int, 0 ≤ w → w < p → ∃ k : Nat, k < p.toNat ∧ w = (k : Int) := fun w h0 h1 => ⟨w.toNat, by omega, by omega⟩
    simp only [allPts, row1, rows2, row2, List.mem_append, List.mem_map, List.mem_flatMap, List.mem_singleton, List.mem_range]
    simp only [fnz] at hf
    by_cases h1 : x = 0
    · subst h1
      by_cases h2 : y = 0
      · subst h2
        by_cases h3 : z = 0
        · subst h3; simp at hf
        · left; left
          simp at hf
          simp_all
      · left; right
        simp [h2] at hf
        subst hf
        obtain ⟨k, hk, rfl⟩ := hof z hz.1 hz.2
        exact ⟨k, hk, rfl⟩
    · right
      simp [h1] at hf
      subst hf
      obtain ⟨j, hj, rfl⟩ := hof y hy.1 hy.2
      obtain ⟨k, hk, rfl⟩ := hof z hz.1 hz.2
      exact ⟨j, hj, k, hk, rfl⟩
end Go.Proofs.Ytoiolpgmilobnaa
namespace Go.Proofs.Ytoiolpgmilobnaa
set_option linter.unusedVariables false
theorem fac_inv {p : Int} (hp : primeB p = true) {l : List Int} (h : fnz (l.map (· % p)) ≠ 0) : fnz (l.map (· % p)) * facP p l % p = 1 := by
  have hb := prime_bd hp
  rcases fnz_mem (l.map (· % p)) with h0 | h0
  · exact absurd h0 h
  · obtain ⟨x, _, hx⟩ := List.mem_map.1 h0
    have h1 := Int.emod_nonneg x (show p ≠ 0 by omega)
    have h2 := Int.emod_lt_of_pos x (show 0 < p by omega)
    exact (inv_spec hp (by omega) (by omega)).2.2
end Go.Proofs.Ytoiolpgmilobnaa
namespace Go.Proofs.Ytoiolpgmilobnaa
set_option maxRecDepth 10000
set_option linter.unusedSimpArgs false
set_option linter.unusedVariables false
theorem fnz_norm {p f : Int} (hp : primeB p = true) : ∀ l : List Int, fnz (l.map (· % p)) * f % p = 1 → fnz (l.map fun x => x % p * f % p) = 1
  | [], h => by simp [fnz] at h
  | a :: r, h => by
    simp only [List.map_cons, fnz] at h ⊢
    by_cases h0 : a % p = 0
    · rw [if_pos h0] at h
      rw [if_pos (by rw [h0]; simp)]
      exact fnz_norm hp r h
    · rw [if_neg h0] at h
      rw [if_neg (by rw [h]; decide)]
      exact h
theorem norm_mem {p : Int} (hp : primeB p = true) {l : List Int} (hl : l.length = 3) (h : facP p l ≠ 0) : normL p l ∈ allPts p := by
  have hb := prime_bd hp
  refine point_mem (by rw [normL_length]; exact hl) ?_
  have hz : fnz (l.map (· % p)) ≠ 0 := fun e => h ((fac_zero hp l).2 e)
  simp only [pointB, normB, Bool.and_eq_true, beq_iff_eq]
  refine ⟨hp, ?_, fnz_norm hp l (fac_inv hp hz)⟩
  rw [modB, List.all_eq_true]
  intro x hx
  obtain ⟨y, _, rfl⟩ := List.mem_map.1 hx
  have h1 := Int.emod_nonneg (y % p * facP p l) (show p ≠ 0 by omega)
  have h2 := Int.emod_lt_of_pos (y % p * facP p l) (show 0 < p by omega)
  simp only [Bool.and_eq_true, decide_eq_true_eq]
  omega
attribute [local irreducible] CW OW QW QOp Con thenP inBlockP AW QX RW
def crossT (a b : List Int) : List Int := [a.getD 1 0 * b.getD 2 0 - a.getD 2 0 * b.getD 1 0, a.getD 2 0 * b.getD 0 0 - a.getD 0 0 * b.getD 2 0, a.getD 0 0 * b.getD 1 0 - a.getD 1 0 * b.getD 0 0]
attribute [local simp] normL_length
@[simp] theorem crossT_len (a b : List Int) : (crossT a b).length = 3 := rfl
theorem crN_len (p : Int) (a b : List Int) : (normL p (crossT a b)).length = 3 := by rw [normL_length]; rfl
theorem pointOf_con (p x y z : Int) (hp : primeB p = true) : ConQ Try.prog [] 130 [.int p, .int x, .int y, .int z] [] (.arr (normL p [x, y, z])) := by
  have hnl : (normL p [x, y, z]).length = 3 := by simp [normL, crossT]
  refine conW tab_ok [(0, .int p), (1, .int x), (2, .int y), (3, .int z)] 0 [] [] Try.func130 rfl rfl rfl rfl rfl rfl rfl rfl rfl ?_
  refine cR ?_
  refine oAlloc rfl rfl rfl rfl rfl rfl rfl ?_
  refine oN ?_
  refine cR ?_
  iterate 3 refine oM rfl rfl ?_
  refine oQ (Q_build rfl rfl rfl rfl rfl rfl rfl rfl) rfl rfl ?_
  refine oAlloc rfl rfl rfl rfl rfl rfl rfl ?_
  first | refine oSw rfl rfl rfl rfl ?_ | refine oSa rfl rfl rfl rfl ?_
  refine oN ?_
  refine cR ?_
  refine oM rfl rfl ?_
  refine oQ (Q_slaF rfl rfl rfl rfl) rfl rfl ?_
  refine oCall (normal_con p 32 [x, y, z] 3 3 (by simp) hp (by omega)) [(0, 1)] 0 rfl rfl (Fits.mk' (vHc rfl vHn) rfl rfl (by first | (simp; done) | exact glOk rfl rfl rfl)) rfl rfl ?_
  rintro r H1 ⟨rfl, rfl⟩
  refine ⟨.bool (facP p [x, y, z] != 0), [(1, .ints 32 (normL p [x, y, z]))], rfl, rfl, rfl, ?_⟩
  refine oN ?_
  refine cR ?_
  refine oQ (Q_ldw rfl rfl rfl rfl hnl) rfl rfl ?_
  first | refine oSw rfl rfl rfl rfl ?_ | refine oSa rfl rfl rfl rfl ?_
  refine oN ?_
  refine CW_ret ?_
  all_goals (
   ((refine exitQ (.inr rfl) 0 (.cons (.arr rfl rfl rfl rfl (by first | omega | (dsimp only; omega) | (simp; omega) | (simp; done))) .nil) ?_ rfl vHn rfl rfl); rfl))
theorem cross_con3 (p a b c x y z : Int) (hp : primeB p = true) (h1 : sm 13 [a, b, c]) (h2 : sm 13 [x, y, z]) : ConQ Try.prog [] 103 [.int p, .arr [a, b, c], .arr [x, y, z]] [] (.arr (normL p (crossT [a, b, c] [x, y, z]))) := by
  obtain ⟨ha, hb, hc⟩ := sm3.1 h1
  obtain ⟨hx, hy, hz⟩ := sm3.1 h2
  have hpb := prime_bd hp
  have hnl : ∀ u v w, (normL p [u, v, w]).length = 3 := fun _ _ _ => by simp [normL]
  refine conW tab_ok [(0, .int p), (1, .arr [a, b, c]), (2, .arr [x, y, z])] 0 [] [] Try.func103 rfl rfl rfl rfl rfl rfl rfl rfl rfl ?_
  refine cR ?_
  iterate 2 refine oBox rfl rfl rfl rfl rfl rfl ?_
  refine oAlloc rfl rfl rfl rfl rfl rfl rfl ?_
  refine oN ?_
  refine cR ?_
  refine oM rfl rfl ?_
  first | refine oQ (Ia0 rfl rfl rfl rfl rfl rfl) rfl rfl ?_ | refine oQ (Ia1 rfl rfl rfl rfl rfl rfl) rfl rfl ?_
  first | refine oQ (Q_ldc rfl rfl rfl rfl rfl) rfl rfl ?_ | refine oQ (Ld rfl rfl rfl rfl) rfl rfl ?_
  first | refine oQ (Ia0 rfl rfl rfl rfl rfl rfl) rfl rfl ?_ | refine oQ (Ia1 rfl rfl rfl rfl rfl rfl) rfl rfl ?_
  first | refine oQ (Q_ldc rfl rfl rfl rfl rfl) rfl rfl ?_ | refine oQ (Ld rfl rfl rfl rfl) rfl rfl ?_
  refine oMul 13 13 rfl rfl (by omega) (by omega) (by decide) rfl (fun z12 hz12 hl12 hu12 => ?_)
  first | refine oQ (Ia0 rfl rfl rfl rfl rfl rfl) rfl rfl ?_ | refine oQ (Ia1 rfl rfl rfl rfl rfl rfl) rfl rfl ?_
  first | refine oQ (Q_ldc rfl rfl rfl rfl rfl) rfl rfl ?_ | refine oQ (Ld rfl rfl rfl rfl) rfl rfl ?_
  first | refine oQ (Ia0 rfl rfl rfl rfl rfl rfl) rfl rfl ?_ | refine oQ (Ia1 rfl rfl rfl rfl rfl rfl) rfl rfl ?_
  first | refine oQ (Q_ldc rfl rfl rfl rfl rfl) rfl rfl ?_ | refine oQ (Ld rfl rfl rfl rfl) rfl rfl ?_
  refine oMul 13 13 rfl rfl (by omega) (by omega) (by decide) rfl (fun z17 hz17 hl17 hu17 => ?_)
  first | refine oQ (Q_binu rfl rfl rfl (by omega)) rfl rfl ?_ | refine oQ (Q_bin rfl rfl rfl) rfl rfl ?_
  first | refine oQ (Ia0 rfl rfl rfl rfl rfl rfl) rfl rfl ?_ | refine oQ (Ia1 rfl rfl rfl rfl rfl rfl) rfl rfl ?_
  first | refine oQ (Q_ldc rfl rfl rfl rfl rfl) rfl rfl ?_ | refine oQ (Ld rfl rfl rfl rfl) rfl rfl ?_
  first | refine oQ (Ia0 rfl rfl rfl rfl rfl rfl) rfl rfl ?_ | refine oQ (Ia1 rfl rfl rfl rfl rfl rfl) rfl rfl ?_
  first | refine oQ (Q_ldc rfl rfl rfl rfl rfl) rfl rfl ?_ | refine oQ (Ld rfl rfl rfl rfl) rfl rfl ?_
  refine oMul 13 13 rfl rfl (by omega) (by omega) (by decide) rfl (fun z23 hz23 hl23 hu23 => ?_)
  first | refine oQ (Ia0 rfl rfl rfl rfl rfl rfl) rfl rfl ?_ | refine oQ (Ia1 rfl rfl rfl rfl rfl rfl) rfl rfl ?_
  first | refine oQ (Q_ldc rfl rfl rfl rfl rfl) rfl rfl ?_ | refine oQ (Ld rfl rfl rfl rfl) rfl rfl ?_
  first | refine oQ (Ia0 rfl rfl rfl rfl rfl rfl) rfl rfl ?_ | refine oQ (Ia1 rfl rfl rfl rfl rfl rfl) rfl rfl ?_
  first | refine oQ (Q_ldc rfl rfl rfl rfl rfl) rfl rfl ?_ | refine oQ (Ld rfl rfl rfl rfl) rfl rfl ?_
  refine oMul 13 13 rfl rfl (by omega) (by omega) (by decide) rfl (fun z28 hz28 hl28 hu28 => ?_)
  first | refine oQ (Q_binu rfl rfl rfl (by omega)) rfl rfl ?_ | refine oQ (Q_bin rfl rfl rfl) rfl rfl ?_
  first | refine oQ (Ia0 rfl rfl rfl rfl rfl rfl) rfl rfl ?_ | refine oQ (Ia1 rfl rfl rfl rfl rfl rfl) rfl rfl ?_
  first | refine oQ (Q_ldc rfl rfl rfl rfl rfl) rfl rfl ?_ | refine oQ (Ld rfl rfl rfl rfl) rfl rfl ?_
  first | refine oQ (Ia0 rfl rfl rfl rfl rfl rfl) rfl rfl ?_ | refine oQ (Ia1 rfl rfl rfl rfl rfl rfl) rfl rfl ?_
  first | refine oQ (Q_ldc rfl rfl rfl rfl rfl) rfl rfl ?_ | refine oQ (Ld rfl rfl rfl rfl) rfl rfl ?_
  refine oMul 13 13 rfl rfl (by omega) (by omega) (by decide) rfl (fun z34 hz34 hl34 hu34 => ?_)
  first | refine oQ (Ia0 rfl rfl rfl rfl rfl rfl) rfl rfl ?_ | refine oQ (Ia1 rfl rfl rfl rfl rfl rfl) rfl rfl ?_
  first | refine oQ (Q_ldc rfl rfl rfl rfl rfl) rfl rfl ?_ | refine oQ (Ld rfl rfl rfl rfl) rfl rfl ?_
  first | refine oQ (Ia0 rfl rfl rfl rfl rfl rfl) rfl rfl ?_ | refine oQ (Ia1 rfl rfl rfl rfl rfl rfl) rfl rfl ?_
  first | refine oQ (Q_ldc rfl rfl rfl rfl rfl) rfl rfl ?_ | refine oQ (Ld rfl rfl rfl rfl) rfl rfl ?_
  refine oMul 13 13 rfl rfl (by omega) (by omega) (by decide) rfl (fun z39 hz39 hl39 hu39 => ?_)
  first | refine oQ (Q_binu rfl rfl rfl (by omega)) rfl rfl ?_ | refine oQ (Q_bin rfl rfl rfl) rfl rfl ?_
  refine oQ (Q_call0 (pointOf_con _ _ _ _ hp) rfl rfl rfl) rfl rfl ?_
  first | refine oSw rfl rfl rfl rfl ?_ | refine oSa rfl rfl rfl rfl ?_
  refine oN ?_
  refine CW_ret ?_
  all_goals (
   subst hz12 hz17 hz23 hz28 hz34 hz39
   refine exitQ (.inr rfl) 0 (.cons (.arr rfl rfl rfl rfl (by first | omega | (dsimp only; omega) | (simp; omega) | (simp; done))) .nil) ?_ rfl vHn rfl rfl
   rfl)
theorem cross_con (p : Int) (a b : List Int) (hp : primeB p = true) (ha : a.length = 3) (hb : b.length = 3) (h1 : sm 13 a) (h2 : sm 13 b) : ConQ Try.prog [] 103 [.int p, .arr a, .arr b] [] (.arr (normL p (crossT a b))) := by
  match a, ha, b, hb with
  | [a, b, c], _, [x, y, z], _ => exact cross_con3 p a b c x y z hp h1 h2
theorem join_con (p : Int) (a b : List Int) (hp : primeB p = true) (ha : a.length = 3) (hb : b.length = 3) (h1 : sm 13 a) (h2 : sm 13 b) : ConQ Try.prog [] 59 [.int p, .arr a, .arr b] [] (.arr (normL p (crossT a b))) := by
  have hnl : (normL p (crossT a b)).length = 3 := by simp [normL, crossT]
  refine conW tab_ok [(0, .int p), (1, .arr a), (2, .arr b)] 0 [] [] Try.func59 rfl rfl rfl rfl rfl rfl rfl rfl rfl ?_
  refine cR ?_
  iterate 2 refine oBox rfl rfl rfl rfl rfl rfl ?_
  refine oAlloc rfl rfl rfl rfl rfl rfl rfl ?_
  refine oN ?_
  refine cR ?_
  refine oM rfl rfl ?_
  refine oQ (Q_ldw rfl rfl rfl rfl ha) rfl rfl ?_
  refine oQ (Q_ldw rfl rfl rfl rfl hb) rfl rfl ?_
  refine oQ (Q_call0 (cross_con p a b hp ha hb h1 h2) rfl rfl rfl) rfl rfl ?_
  first | refine oSw rfl rfl rfl rfl ?_ | refine oSa rfl rfl rfl rfl ?_
  refine oN ?_
  refine CW_ret ?_
  all_goals (
   ((refine exitQ (.inr rfl) 0 (.cons (.arr rfl rfl rfl rfl (by first | omega | (dsimp only; omega) | (simp; omega) | (simp; done))) .nil) ?_ rfl vHn rfl rfl); rfl))
theorem l01Cross_con3 (p a b c x y z : Int) (hp : primeB p = true) (h1 : sm 13 [a, b, c]) (h2 : sm 13 [x, y, z]) : ConQ Try.prog [] 96 [.int p, .arr [a, b, c], .arr [x, y, z]] [] (.tuple [.arr (normL p (crossT [a, b, c] [x, y, z])), .bool (facP p (crossT [a, b, c] [x, y, z]) != 0)]) := by
  obtain ⟨ha, hb, hc⟩ := sm3.1 h1
  obtain ⟨hx, hy, hz⟩ := sm3.1 h2
  have hpb := prime_bd hp
  refine conW tab_ok [(0, .int p), (1, .arr [a, b, c]), (2, .arr [x, y, z])] 0 [] [] Try.func96 rfl rfl rfl rfl rfl rfl rfl rfl rfl ?_
  refine cR ?_
  iterate 2 refine oBox rfl rfl rfl rfl rfl rfl ?_
  refine oAlloc rfl rfl rfl rfl rfl rfl rfl ?_
  refine oA rfl rfl ?_
  refine oN ?_
  refine cR ?_
  refine oM rfl rfl ?_
  first | refine oQ (Ia0 rfl rfl rfl rfl rfl rfl) rfl rfl ?_ | refine oQ (Ia1 rfl rfl rfl rfl rfl rfl) rfl rfl ?_
  first | refine oQ (Q_ldc rfl rfl rfl rfl rfl) rfl rfl ?_ | refine oQ (Ld rfl rfl rfl rfl) rfl rfl ?_
  first | refine oQ (Ia0 rfl rfl rfl rfl rfl rfl) rfl rfl ?_ | refine oQ (Ia1 rfl rfl rfl rfl rfl rfl) rfl rfl ?_
  first | refine oQ (Q_ldc rfl rfl rfl rfl rfl) rfl rfl ?_ | refine oQ (Ld rfl rfl rfl rfl) rfl rfl ?_
  refine oMul 13 13 rfl rfl (by omega) (by omega) (by decide) rfl (fun z13 hz13 hl13 hu13 => ?_)
  first | refine oQ (Ia0 rfl rfl rfl rfl rfl rfl) rfl rfl ?_ | refine oQ (Ia1 rfl rfl rfl rfl rfl rfl) rfl rfl ?_
  first | refine oQ (Q_ldc rfl rfl rfl rfl rfl) rfl rfl ?_ | refine oQ (Ld rfl rfl rfl rfl) rfl rfl ?_
  first | refine oQ (Ia0 rfl rfl rfl rfl rfl rfl) rfl rfl ?_ | refine oQ (Ia1 rfl rfl rfl rfl rfl rfl) rfl rfl ?_
  first | refine oQ (Q_ldc rfl rfl rfl rfl rfl) rfl rfl ?_ | refine oQ (Ld rfl rfl rfl rfl) rfl rfl ?_
  refine oMul 13 13 rfl rfl (by omega) (by omega) (by decide) rfl (fun z18 hz18 hl18 hu18 => ?_)
  first | refine oQ (Q_binu rfl rfl rfl (by omega)) rfl rfl ?_ | refine oQ (Q_bin rfl rfl rfl) rfl rfl ?_
  first | refine oQ (Ia0 rfl rfl rfl rfl rfl rfl) rfl rfl ?_ | refine oQ (Ia1 rfl rfl rfl rfl rfl rfl) rfl rfl ?_
  first | refine oQ (Q_ldc rfl rfl rfl rfl rfl) rfl rfl ?_ | refine oQ (Ld rfl rfl rfl rfl) rfl rfl ?_
  first | refine oQ (Ia0 rfl rfl rfl rfl rfl rfl) rfl rfl ?_ | refine oQ (Ia1 rfl rfl rfl rfl rfl rfl) rfl rfl ?_
  first | refine oQ (Q_ldc rfl rfl rfl rfl rfl) rfl rfl ?_ | refine oQ (Ld rfl rfl rfl rfl) rfl rfl ?_
  refine oMul 13 13 rfl rfl (by omega) (by omega) (by decide) rfl (fun z24 hz24 hl24 hu24 => ?_)
  first | refine oQ (Ia0 rfl rfl rfl rfl rfl rfl) rfl rfl ?_ | refine oQ (Ia1 rfl rfl rfl rfl rfl rfl) rfl rfl ?_
  first | refine oQ (Q_ldc rfl rfl rfl rfl rfl) rfl rfl ?_ | refine oQ (Ld rfl rfl rfl rfl) rfl rfl ?_
  first | refine oQ (Ia0 rfl rfl rfl rfl rfl rfl) rfl rfl ?_ | refine oQ (Ia1 rfl rfl rfl rfl rfl rfl) rfl rfl ?_
  first | refine oQ (Q_ldc rfl rfl rfl rfl rfl) rfl rfl ?_ | refine oQ (Ld rfl rfl rfl rfl) rfl rfl ?_
  refine oMul 13 13 rfl rfl (by omega) (by omega) (by decide) rfl (fun z29 hz29 hl29 hu29 => ?_)
  first | refine oQ (Q_binu rfl rfl rfl (by omega)) rfl rfl ?_ | refine oQ (Q_bin rfl rfl rfl) rfl rfl ?_
  first | refine oQ (Ia0 rfl rfl rfl rfl rfl rfl) rfl rfl ?_ | refine oQ (Ia1 rfl rfl rfl rfl rfl rfl) rfl rfl ?_
  first | refine oQ (Q_ldc rfl rfl rfl rfl rfl) rfl rfl ?_ | refine oQ (Ld rfl rfl rfl rfl) rfl rfl ?_
  first | refine oQ (Ia0 rfl rfl rfl rfl rfl rfl) rfl rfl ?_ | refine oQ (Ia1 rfl rfl rfl rfl rfl rfl) rfl rfl ?_
  first | refine oQ (Q_ldc rfl rfl rfl rfl rfl) rfl rfl ?_ | refine oQ (Ld rfl rfl rfl rfl) rfl rfl ?_
  refine oMul 13 13 rfl rfl (by omega) (by omega) (by decide) rfl (fun z35 hz35 hl35 hu35 => ?_)
  first | refine oQ (Ia0 rfl rfl rfl rfl rfl rfl) rfl rfl ?_ | refine oQ (Ia1 rfl rfl rfl rfl rfl rfl) rfl rfl ?_
  first | refine oQ (Q_ldc rfl rfl rfl rfl rfl) rfl rfl ?_ | refine oQ (Ld rfl rfl rfl rfl) rfl rfl ?_
  first | refine oQ (Ia0 rfl rfl rfl rfl rfl rfl) rfl rfl ?_ | refine oQ (Ia1 rfl rfl rfl rfl rfl rfl) rfl rfl ?_
  first | refine oQ (Q_ldc rfl rfl rfl rfl rfl) rfl rfl ?_ | refine oQ (Ld rfl rfl rfl rfl) rfl rfl ?_
  refine oMul 13 13 rfl rfl (by omega) (by omega) (by decide) rfl (fun z40 hz40 hl40 hu40 => ?_)
  first | refine oQ (Q_binu rfl rfl rfl (by omega)) rfl rfl ?_ | refine oQ (Q_bin rfl rfl rfl) rfl rfl ?_
  refine oQ (Q_call0 (l01Made_con _ _ _ _ hp) rfl rfl rfl) rfl rfl ?_
  iterate 2 refine oQ (Q_extract rfl rfl) rfl rfl ?_
  first | refine oSw rfl rfl rfl rfl ?_ | refine oSa rfl rfl rfl rfl ?_
  refine oA rfl rfl ?_
  refine oN ?_
  refine CW_ret ?_
  all_goals (
   subst hz13 hz18 hz24 hz29 hz35 hz40
   refine exitQ (.inr rfl) 0 (.cons (.arr rfl rfl rfl rfl (by first | omega | (dsimp only; omega) | (simp; omega) | (simp; done))) (.cons (.tmp rfl rfl) .nil)) ?_ rfl vHn rfl rfl
   rfl)
theorem l01Cross_con (p : Int) (a b : List Int) (hp : primeB p = true) (ha : a.length = 3) (hb : b.length = 3) (h1 : sm 13 a) (h2 : sm 13 b) : ConQ Try.prog [] 96 [.int p, .arr a, .arr b] [] (.tuple [.arr (normL p (crossT a b)), .bool (facP p (crossT a b) != 0)]) := by
  match a, ha, b, hb with
  | [a, b, c], _, [x, y, z], _ => exact l01Cross_con3 p a b c x y z hp h1 h2
theorem l01Join_con (p : Int) (a b : List Int) (hp : primeB p = true) (ha : a.length = 3) (hb : b.length = 3) (h1 : sm 13 a) (h2 : sm 13 b) : ConQ Try.prog [] 54 [.int p, .arr a, .arr b] [] (.tuple [.arr (normL p (crossT a b)), .bool (facP p (crossT a b) != 0)]) := by
  have hnl := crN_len p a b
  refine conW tab_ok [(0, .int p), (1, .arr a), (2, .arr b)] 0 [] [] Try.func54 rfl rfl rfl rfl rfl rfl rfl rfl rfl ?_
  refine cR ?_
  iterate 2 refine oBox rfl rfl rfl rfl rfl rfl ?_
  refine oAlloc rfl rfl rfl rfl rfl rfl rfl ?_
  refine oA rfl rfl ?_
  refine oN ?_
  refine cR ?_
  refine oM rfl rfl ?_
  refine oQ (Q_ldw rfl rfl rfl rfl ha) rfl rfl ?_
  refine oQ (Q_ldw rfl rfl rfl rfl hb) rfl rfl ?_
  refine oQ (Q_call0 (l01Cross_con p a b hp ha hb h1 h2) rfl rfl rfl) rfl rfl ?_
  refine oM rfl rfl ?_
  iterate 2 refine oQ (Q_extract rfl rfl) rfl rfl ?_
  refine oAlloc rfl rfl rfl rfl rfl rfl rfl ?_
  first | refine oSw rfl rfl rfl rfl ?_ | refine oSa rfl rfl rfl rfl ?_
  refine oA rfl rfl ?_
  refine oN ?_
  refine cR ?_
  refine oQ (Q_ldw rfl rfl rfl rfl hnl) rfl rfl ?_
  refine oM rfl rfl ?_
  first | refine oSw rfl rfl rfl rfl ?_ | refine oSa rfl rfl rfl rfl ?_
  refine oA rfl rfl ?_
  refine oN ?_
  refine CW_ret ?_
  all_goals (
   ((refine exitQ (.inr rfl) 0 (.cons (.arr rfl rfl rfl rfl (by first | omega | (dsimp only; omega) | (simp; omega) | (simp; done))) (.cons (.tmp rfl rfl) .nil)) ?_ rfl vHn rfl rfl); rfl))
end Go.Proofs.Ytoiolpgmilobnaa
namespace Go.Proofs.Ytoiolpgmilobnaa
set_option maxRecDepth 10000
set_option linter.unusedSimpArgs false
set_option linter.unusedVariables false
set_option linter.unusedSectionVars false
open Lean.Grind
theorem rk_ex {p : Int} (hp : primeB p = true) {M : Nat → List Int} {m w : Nat} (hM : ∀ i, i < m → rwB p w (M i)) : ∃ r, rkP p M m w r := by
  have hb := prime_bd hp
  have hp0 : 0 < p := by omega
  have key : ∀ i, i ≤ m → ∃ (E : Nat → List Int) (r : Nat) (P : Nat → Nat), (∀ k, k < r → rwB p w (E k)) ∧ EcI p M i w E r P := by
    intro i
    induction i with
    | zero => exact fun _ => ⟨fun _ => [], 0, fun _ => 0, fun k hk => absurd hk (Nat.not_lt_zero _), EcI_start p M w _ _⟩
    | succ i ih =>
      intro hi
      obtain ⟨E, r, P, h1, h2⟩ := ih (by omega)
      by_cases hl : ldI (rdc p E P w (M i) r) < 0
      · exact ⟨E, r, P, h1, EcI_skip hp h2 (hM i (by omega)) h1 hl⟩
      · obtain ⟨a1, a2, a3⟩ := ldI_at hl
        have hB := rdc_B (E := E) (P := P) hp0 (hM i (by omega)) r
        rw [hB.1] at a1
        refine ⟨fun k => if k < r then lsL p (E k) (normL p (rdc p E P w (M i) r)) ((E k).getD (ldI (rdc p E P w (M i) r)).toNat 0) w else normL p (rdc p E P w (M i) r), r + 1, _, fun k hk => ?_, EcI_put hp h2 (hM i (by omega)) h1 (Nat.le_refl r) a1 a2 a3 (fun k hk => if_pos hk) (if_neg (Nat.lt_irrefl r)) (fun k h1 h2 => absurd h1 (by omega))⟩
        dsimp only
        split
        · exact rwB_ls hp0 _ _ _ _
        · exact rwB_no hp0 hB
  obtain ⟨E, r, P, _, h⟩ := key m (Nat.le_refl m)
  exact ⟨r, fun n _ hn hF => ⟨_, P, (h n hn hF).1, (h n hn hF).2⟩⟩
theorem rk_spec {p : Int} (hp : primeB p = true) {M : Nat → List Int} {m w : Nat} (hM : ∀ i, i < m → rwB p w (M i)) : rkP p M m w (rkI p M m w) := by
  obtain ⟨r, h⟩ := rk_ex hp hM
  rw [rk_eq hp h]; exact h
section
variable {F : Type} [CommRing F]
theorem null_ex (h1 : (1 : F) ≠ 0) {E : Nat → Nat → F} {r w : Nat} {P : Nat → Nat} (h : Ech E r w P) (hr : r < w) : ∃ x, NullV E r w x ∧ ∃ j, j < w ∧ x j ≠ 0 := by
  apply Classical.byContradiction
  intro hn
  have hx : ∀ x, NullV E r w x → ∀ j, j < w → x j = 0 := fun x hx j hj => Classical.byContradiction fun e => hn ⟨x, hx, j, hj, e⟩
  have hex : ∀ c, ∃ i, c < w → i < r ∧ P i = c := fun c => by
    by_cases hc : c < w
    · obtain ⟨i, hi, e⟩ := (ech_piv h1 h hc).2 (fun x g _ => hx x g c hc)
      exact ⟨i, fun _ => ⟨hi, e⟩⟩
    · exact ⟨0, fun g => absurd g hc⟩
  have := pigeon w r (fun c => Classical.choose (hex c)) (fun c hc => (Classical.choose_spec (hex c) hc).1) (fun c d hc hd e => by
    rw [← (Classical.choose_spec (hex c) hc).2, ← (Classical.choose_spec (hex d) hd).2]; exact congrArg P e)
  omega
theorem ech_w (h1 : (1 : F) ≠ 0) {E : Nat → Nat → F} {r w : Nat} {P : Nat → Nat} (h : Ech E r w P) : r ≤ w :=
  pigeon r w P h.lt (fun i j hi hj e => ech_inj h1 h hi hj e)
end
theorem rk_le {p : Int} (hp : primeB p = true) {M : Nat → List Int} {m w : Nat} (hM : ∀ i, i < m → rwB p w (M i)) : rkI p M m w ≤ w := by
  obtain ⟨n, _, e, hF, _⟩ := fld_of hp
  obtain ⟨E, P, h, _⟩ := rk_spec hp hM n e hF
  exact ech_w hF.1 h
/-! ### conics -/
def mR (p : Int) (c : List Int) : Nat → List Int := fun i => ((matV p c).drop (i * 3)).take 3
theorem mR_B {p : Int} (hp : primeB p = true) {c : List Int} (hc6 : c.length = 6) : ∀ i, i < 3 → rwB p 3 (mR p c i) := by
  have hb := prime_bd hp
  match c, hc6 with
  | [a, b, c', d, e, f], _ =>
    have hm : ∀ x : Int, 0 ≤ x % p ∧ x % p < p := fun x => ⟨Int.emod_nonneg _ (by omega), Int.emod_lt_of_pos _ (by omega)⟩
    intro i hi
    have : i = 0 ∨ i = 1 ∨ i = 2 := by omega
    rcases this with rfl | rfl | rfl
    all_goals refine ⟨rfl, fun j => ?_⟩
    all_goals (have hj : j = 0 ∨ j = 1 ∨ j = 2 ∨ 3 ≤ j := by omega)
    all_goals rcases hj with rfl | rfl | rfl | hj
    all_goals first | exact hm _ | (have e : ∀ u v w : Int, ([u, v, w] : List Int).getD j 0 = 0 := fun u v w => by simp [List.getD, hj]
                                    show 0 ≤ ([_, _, _] : List Int).getD j 0 ∧ ([_, _, _] : List Int).getD j 0 < p
                                    rw [e]; omega)
def ptsQ (p : Int) (c : List Int) : List (List Int) := (allPts p).filter fun m => conV p c m == 0
noncomputable def kdV (p : Int) (c : List Int) : Int := if rkI p (mR p c) 3 3 = 3 then 0 else if rkI p (mR p c) 3 3 = 2 then (if 1 < (ptsQ p c).length then 1 else 2) else 3
section
variable {F : Type} [CommRing F]
theorem sing_alg {t A B C D G H X Y Z s : F} (ht : t = 1 + 1) (r0 : 0 + t * A * X + D * Y + G * Z = 0) (r1 : 0 + D * X + t * B * Y + H * Z = 0) (r2 : 0 + G * X + H * Y + t * C * Z = 0) : t * (A * (X * s * (X * s)) + B * (Y * s * (Y * s)) + C * (Z * s * (Z * s)) + D * (X * s * (Y * s)) + G * (X * s * (Z * s)) + H * (Y * s * (Z * s))) = 0 := by
  have e : t * (A * (X * s * (X * s)) + B * (Y * s * (Y * s)) + C * (Z * s * (Z * s)) + D * (X * s * (Y * s)) + G * (X * s * (Z * s)) + H * (Y * s * (Z * s))) = s * s * (X * (0 + t * A * X + D * Y + G * Z) + Y * (0 + D * X + t * B * Y + H * Z) + Z * (0 + G * X + H * Y + t * C * Z)) := by subst ht; grind
  rw [e, r0, r1, r2]; grind
end
theorem con_eq (p a b c d e f x y z : Int) : conV p [a, b, c, d, e, f] [x, y, z] = (a * (x * x) + b * (y * y) + c * (z * z) + d * (x * y) + e * (x * z) + f * (y * z)) % p := by
  simp [conV, dotT, pw]
/-- a conic whose matrix is not of rank 3 has a point -/
theorem sing_pt {p : Int} (hp : primeB p = true) {c : List Int} (hc6 : c.length = 6) (hr : rkI p (mR p c) 3 3 < 3) : 0 < (ptsQ p c).length := by
  have hb := prime_bd hp
  obtain ⟨n, _, en, hF, hk⟩ := fld_of hp
  obtain ⟨E, P, hE, hN⟩ := rk_spec hp (mR_B hp hc6) n en hF
  obtain ⟨x, hx, j, hj, hne⟩ := null_ex hF.1 hE hr
  have hx' := (hN x).2 hx
  obtain ⟨k0, e0⟩ := hk (x 0)
  obtain ⟨k1, e1⟩ := hk (x 1)
  obtain ⟨k2, e2⟩ := hk (x 2)
  have hfz : facP p [(k0 : Int), (k1 : Int), (k2 : Int)] ≠ 0 := fun e => by
    have h := fnz_all.1 ((fac_zero hp _).1 e)
    have g0 := h k0 (by simp)
    have g1 := h k1 (by simp)
    have g2 := h k2 (by simp)
    rw [en] at g0 g1 g2
    have : j = 0 ∨ j = 1 ∨ j = 2 := by omega
    rcases this with rfl | rfl | rfl
    · exact hne (by rw [← e0]; exact (ic_z n).2 g0)
    · exact hne (by rw [← e1]; exact (ic_z n).2 g1)
    · exact hne (by rw [← e2]; exact (ic_z n).2 g2)
  have hz : conV p c (normL p [(k0 : Int), (k1 : Int), (k2 : Int)]) = 0 := by
    generalize hf : facP p [(k0 : Int), (k1 : Int), (k2 : Int)] = fa
    have hn : normL p [(k0 : Int), (k1 : Int), (k2 : Int)] = [k0 % p * fa % p, k1 % p * fa % p, k2 % p * fa % p] := by unfold normL; rw [hf]; rfl
    rw [hn]
    match c, hc6 with
    | [a, b, c', d, e, f], _ =>
      rw [con_eq]
      have r0 := hx' 0 (by omega)
      have r1 := hx' 1 (by omega)
      have r2 := hx' 2 (by omega)
      change (0 + (ic (2 * a % p) : Fin n) * x 0 + ic (d % p) * x 1 + ic (e % p) * x 2) = 0 at r0
      change (0 + (ic (d % p) : Fin n) * x 0 + ic (2 * b % p) * x 1 + ic (f % p) * x 2) = 0 at r1
      change (0 + (ic (e % p) : Fin n) * x 0 + ic (f % p) * x 1 + ic (2 * c' % p) * x 2) = 0 at r2
      rw [en] at r0 r1 r2 ⊢
      simp only [ic_mod n, ic_mul] at r0 r1 r2
      refine (ic_z (R := Fin n) n).1 ?_
      simp only [ic_add, ic_mul, ic_mod n, e0, e1, e2]
      have h2 : (ic 2 : Fin n) ≠ 0 := fun h => by
        have := (ic_z n).1 h
        rw [← en, Int.emod_eq_of_lt (by omega) (by omega)] at this
        omega
      have h2' : (ic 2 : Fin n) = 1 + 1 := by
        show (ic (1 + 1) : Fin n) = 1 + 1
        rw [ic_add, ic_one]
      have := sing_alg (s := ic fa) h2' r0 r1 r2
      exact (hF.2.1 _ _ this).resolve_left h2
  have hm : normL p [(k0 : Int), (k1 : Int), (k2 : Int)] ∈ ptsQ p c := by
    unfold ptsQ
    rw [List.mem_filter]
    exact ⟨norm_mem hp rfl hfz, by rw [hz]; rfl⟩
  exact List.length_pos_of_mem hm
theorem rk_pos {p : Int} (hp : primeB p = true) {c : List Int} (hc6 : c.length = 6) (hc : pointB p c = true) : rkI p (mR p c) 3 3 ≠ 0 := by
  intro h0
  obtain ⟨n, _, en, hF, _⟩ := fld_of hp
  obtain ⟨E, P, hE, hN⟩ := rk_spec hp (mR_B hp hc6) n en hF
  rw [h0] at hN
  have hz : ∀ i j, i < 3 → j < 3 → (mR p c i).getD j 0 = 0 := fun i j hi hj => by
    have := (hN (dl j)).2 (fun k hk => absurd hk (Nat.not_lt_zero _)) i hi
    rw [dt_dl _ hj] at this
    have b := (mR_B hp hc6 i hi).2 j
    exact ic_small b.1 (by omega) this
  match c, hc6 with
  | [a, b, c', d, e, f], _ =>
    have z0 : 2 * a % p = 0 := hz 0 0 (by omega) (by omega)
    have z1 : d % p = 0 := hz 0 1 (by omega) (by omega)
    have z2 : e % p = 0 := hz 0 2 (by omega) (by omega)
    have z3 : 2 * b % p = 0 := hz 1 1 (by omega) (by omega)
    have z4 : f % p = 0 := hz 1 2 (by omega) (by omega)
    have z5 : 2 * c' % p = 0 := hz 2 2 (by omega) (by omega)
    simp only [pointB, normB, modB, List.all_cons, List.all_nil, Bool.and_true, Bool.and_eq_true, decide_eq_true_eq, beq_iff_eq] at hc
    obtain ⟨_, ⟨⟨a1, a2⟩, ⟨b1, b2⟩, ⟨c1, c2⟩, ⟨d1, d2⟩, ⟨e1, e2⟩, ⟨f1, f2⟩⟩, hfz⟩ := hc
    have ea : a = 0 ∧ b = 0 ∧ c' = 0 ∧ d = 0 ∧ e = 0 ∧ f = 0 := by
      rcases prime_cases hp with rfl | rfl | rfl | rfl | rfl <;> omega
    obtain ⟨rfl, rfl, rfl, rfl, rfl, rfl⟩ := ea
    simp [fnz] at hfz
/-- the reference's road to the kind -/
theorem kd_ref {p : Int} (hp : primeB p = true) {c : List Int} (hc6 : c.length = 6) (hc : pointB p c = true) : kdV p c = if rkI p (mR p c) 3 3 = 3 then 0 else if rkI p (mR p c) 3 3 = 1 then 3 else if (ptsQ p c).length = 1 then 2 else 1 := by
  have h1 := rk_le hp (mR_B hp hc6)
  have h2 := rk_pos hp hc6 hc
  have h3 := sing_pt hp hc6
  unfold kdV
  generalize rkI p (mR p c) 3 3 = r at *
  have : r = 1 ∨ r = 2 ∨ r = 3 := by omega
  rcases this with rfl | rfl | rfl
  · simp
  · have := h3 (by omega)
    simp only [show ¬ (2 : Nat) = 3 by decide, show ¬ (2 : Nat) = 1 by decide, if_false, if_true]
    by_cases e : (ptsQ p c).length = 1
    · rw [if_pos e, if_neg (by omega)]
    · rw [if_neg e, if_pos (by omega)]
  · simp
theorem kd_zero {p : Int} {c : List Int} : kdV p c = 0 ↔ rkI p (mR p c) 3 3 = 3 := by
  unfold kdV
  by_cases h : rkI p (mR p c) 3 3 = 3
  · simp [h]
  · simp only [h, if_false, iff_false]
    split
    · split <;> decide
    · decide
end Go.Proofs.Ytoiolpgmilobnaa
namespace Go.Proofs.Ytoiolpgmilobnaa
set_option maxRecDepth 10000
set_option linter.unusedSimpArgs false
set_option linter.unusedVariables false
set_option maxHeartbeats 4000000
/-- the adjoint of a map: out[k][i] -/
def adjV (p : Int) : List Int → List Int
  | [a0, a1, a2, a3, a4, a5, a6, a7, a8] => [(a4 * a8 - a5 * a7) % p, (a7 * a2 - a8 * a1) % p, (a1 * a5 - a2 * a4) % p, (a5 * a6 - a3 * a8) % p, (a8 * a0 - a6 * a2) % p, (a2 * a3 - a0 * a5) % p, (a3 * a7 - a4 * a6) % p, (a6 * a1 - a7 * a0) % p, (a0 * a4 - a1 * a3) % p]
  | _ => []
theorem adjV_len (p : Int) {M : List Int} (h : M.length = 9) : (adjV p M).length = 9 := by
  match M, h with
  | [a0, a1, a2, a3, a4, a5, a6, a7, a8], _ => rfl
attribute [local irreducible] CW OW QW QOp Con thenP inBlockP AW QX RW AX
def mn (p : Int) (M : List Int) (i k : Nat) : Int := (M.getD (3 * ((i + 1) % 3) + (k + 1) % 3) 0 * M.getD (3 * ((i + 2) % 3) + (k + 2) % 3) 0 - M.getD (3 * ((i + 1) % 3) + (k + 2) % 3) 0 * M.getD (3 * ((i + 2) % 3) + (k + 1) % 3) 0) % p
def adjT (p : Int) (M : List Int) (i k : Nat) : List Int := (List.range 9).map fun t => if t % 3 < i ∨ (t % 3 = i ∧ t / 3 < k) then mn p M (t % 3) (t / 3) else 0
theorem adjT_len (p : Int) (M : List Int) (i k : Nat) : (adjT p M i k).length = 9 := by simp [adjT]
attribute [local simp] adjT_len
theorem adjoint_con9 (p a0 a1 a2 a3 a4 a5 a6 a7 a8 : Int) (hp : primeB p = true) (hb : ∀ x ∈ [a0, a1, a2, a3, a4, a5, a6, a7, a8], 0 ≤ x ∧ x ≤ 12) : ConQ Try.prog [] 47 [.arr [a0, a1, a2, a3, a4, a5, a6, a7, a8], .int p] [] (.arr (adjV p [a0, a1, a2, a3, a4, a5, a6, a7, a8])) := by
  have hpb := prime_bd hp
  simp only [List.mem_cons, List.not_mem_nil, or_false, forall_eq_or_imp, forall_eq] at hb
  obtain ⟨h0, h1, h2, h3, h4, h5, h6, h7, h8⟩ := hb
  refine conW tab_ok [(0, .arr [a0, a1, a2, a3, a4, a5, a6, a7, a8]), (1, .int p)] 0 [] [] Try.func47 rfl rfl rfl rfl rfl rfl rfl rfl rfl ?_
  refine cR ?_
  refine oBox rfl rfl rfl rfl rfl rfl ?_
  refine oAlloc rfl rfl rfl rfl rfl rfl rfl ?_
  refine oN ?_
  refine cR ?_
  refine oQ (Q_build rfl rfl rfl rfl rfl rfl rfl rfl) rfl rfl ?_
  refine oAlloc rfl rfl rfl rfl rfl rfl rfl ?_
  first | refine oSw rfl rfl rfl rfl ?_ | refine oSa rfl rfl rfl rfl ?_
  refine oN ?_
  refine CW_seq ?_
  refine cR ?_
  refine oM rfl rfl ?_
  refine oN ?_
  refine CW_block ?_
  refine CW_loop (ι := Nat) (fun i => i ≤ 3) (fun i => ⟨[(1, .int p), (2, .ptr 0 0), (4, .ptr 1 0), (5, .ptr 2 0), (11, .int i)], [(0, .ints 64 [a0, a1, a2, a3, a4, a5, a6, a7, a8]), (1, .ints 64 [0, 0, 0, 0, 0, 0, 0, 0, 0]), (2, .ints 64 (adjT p [a0, a1, a2, a3, a4, a5, a6, a7, a8] i 0))], 3⟩) (fun i => 3 - i) 0 ?_ ?_ ?_
  · first | trivial | omega | (simp; done) | (simp; omega)
  · refine View.mk' [] rfl rfl rfl ?_ ?_
    repeat' first | exact vFn | refine vFc rfl ?_ | exact vHn | refine vHc rfl ?_ | refine vFc (congrArg (fun z => some (V.int z)) ?_) ?_ | refine vHc (congrArg (fun z => some (Blk.ints _ z)) ?_) ?_ | refine vFc (congrArg (fun z => some (V.bool z)) ?_) ?_ | refine vFs rfl rfl ?_ ?_
  intro i hi
  have hii : i = 0 ∨ i = 1 ∨ i = 2 ∨ i = 3 := by omega
  obtain ⟨i2, hi2⟩ : ∃ z, z = i := ⟨i, rfl⟩
  rcases hii with rfl | rfl | rfl | rfl
  all_goals (
   refine cR ?_
   refine oQ (Q_bin rfl rfl rfl) rfl rfl ?_
   refine oN ?_
   refine CW_seq ?_
   first | refine cT rfl ?_ | refine cF rfl ?_ | refine CW_cond rfl (fun hc => ?_) (fun hc => ?_)
   all_goals try simp only [s1, s2, s3, s4, s5, s6, s7, s8, s9, s10, s11, s12] at hc
   all_goals first
     | (
      refine CW_skip ?_)
     | (
      refine CW_exit ?_)
   all_goals first
     | with_reducible refine tR ?_
     | with_reducible refine tE ?_
     | (
      with_reducible refine tN ?_
      refine CW_seq ?_
      refine CW_block ?_
      refine cR ?_
      refine oM rfl rfl ?_
      refine oA rfl rfl ?_
      refine oN ?_
      refine cR ?_
      refine oM rfl rfl ?_
      refine oN ?_
      refine CW_block ?_
      refine CW_loop (ι := Nat) (fun k => k ≤ 3) (fun k => ⟨[(1, .int p), (2, .ptr 0 0), (4, .ptr 1 0), (5, .ptr 2 0), (6, .int (i2 : Int)), (11, .int (i2 : Int)), (14, .int k)], [(0, .ints 64 [a0, a1, a2, a3, a4, a5, a6, a7, a8]), (1, .ints 64 [0, 0, 0, 0, 0, 0, 0, 0, 0]), (2, .ints 64 (adjT p [a0, a1, a2, a3, a4, a5, a6, a7, a8] i2 k))], 3⟩) (fun k => 3 - k) 0 ?_ ?_ ?_
      all_goals subst hi2
      · first | trivial | omega | (simp; done) | (simp; omega)
      · refine View.mk' [] rfl rfl rfl ?_ ?_
        repeat' first | exact vFn | refine vFc rfl ?_ | exact vHn | refine vHc rfl ?_ | refine vFc (congrArg (fun z => some (V.int z)) ?_) ?_ | refine vHc (congrArg (fun z => some (Blk.ints _ z)) ?_) ?_ | refine vFc (congrArg (fun z => some (V.bool z)) ?_) ?_ | refine vFs rfl rfl ?_ ?_
      intro k hk
      have hkk : k = 0 ∨ k = 1 ∨ k = 2 ∨ k = 3 := by omega
      rcases hkk with rfl | rfl | rfl | rfl
      all_goals (
       refine cR ?_
       refine oQ (Q_bin rfl rfl rfl) rfl rfl ?_
       refine oN ?_
       refine CW_seq ?_
       first | refine cT rfl ?_ | refine cF rfl ?_ | refine CW_cond rfl (fun hc => ?_) (fun hc => ?_)
       all_goals try simp only [s1, s2, s3, s4, s5, s6, s7, s8, s9, s10, s11, s12] at hc
       all_goals first
         | (
          refine CW_skip ?_)
         | (
          refine CW_exit ?_)
       all_goals first
         | with_reducible refine tR ?_
         | with_reducible refine tE ?_
         | (
          with_reducible refine tN ?_
          refine CW_seq ?_
          refine CW_block ?_
          refine cR ?_
          refine oM rfl rfl ?_
          refine oA rfl rfl ?_
          refine oN ?_
          refine CW_seq ?_
          refine CW_anyX [3, 4] 14 rfl lateOk (by decide +kernel) (fun hst => ?_)
          refine xQ 0 hst rfl (by decide +kernel) (QX_of (Q_move rfl rfl) NE_move) rfl rfl ?_
          first | refine xQ 1 hst rfl (by decide +kernel) (QX_of (Q_binu rfl rfl rfl (by omega)) NE_bin) rfl rfl ?_ | refine xQ 1 hst rfl (by decide +kernel) (QX_of (Q_bin rfl rfl rfl) NE_bin) rfl rfl ?_
          refine xQ 2 hst rfl (by decide +kernel) (QX_of (Q_nrem (b := 3) rfl rfl (by decide)) NE_bin) rfl rfl ?_
          refine xQ 3 hst rfl (by decide +kernel) (QX_of (Q_ixa0z 3 rfl rfl rfl rfl rfl rfl (by decide)) NE_ix) rfl rfl ?_
          refine xQ 4 hst rfl (by decide +kernel) (QX_of (Q_lda (n := 3) rfl rfl rfl rfl rfl (by simp)) NE_load) rfl rfl ?_
          refine xQ 5 hst rfl (by decide +kernel) (QX_of (Q_move rfl rfl) NE_move) rfl rfl ?_
          first | refine xQ 6 hst rfl (by decide +kernel) (QX_of (Q_binu rfl rfl rfl (by omega)) NE_bin) rfl rfl ?_ | refine xQ 6 hst rfl (by decide +kernel) (QX_of (Q_bin rfl rfl rfl) NE_bin) rfl rfl ?_
          refine xQ 7 hst rfl (by decide +kernel) (QX_of (Q_nrem (b := 3) rfl rfl (by decide)) NE_bin) rfl rfl ?_
          refine xQ 8 hst rfl (by decide +kernel) (QX_of (Q_ixa0z 3 rfl rfl rfl rfl rfl rfl (by decide)) NE_ix) rfl rfl ?_
          refine xQ 9 hst rfl (by decide +kernel) (QX_of (Q_lda (n := 3) rfl rfl rfl rfl rfl (by simp)) NE_load) rfl rfl ?_
          refine AX_two (i := 10) (j := 11) (by decide +kernel) ?_ ?_
          all_goals first
            | (
             refine xAlloc rfl rfl rfl rfl rfl rfl rfl rfl ?_
             refine AX_one (i := 11) (by decide +kernel) ?_
             refine xAlloc rfl rfl rfl rfl rfl rfl rfl rfl ?_
             refine AX_one (i := 12) (by decide +kernel) ?_
             refine xStw rfl (by decide) rfl rfl rfl rfl ?_
             refine AX_one (i := 13) (by decide +kernel) ?_
             refine xStw rfl (by decide) rfl rfl rfl rfl ?_
             refine AX_done (by decide +kernel) ?_)
            | (
             refine xAlloc rfl rfl rfl rfl rfl rfl rfl rfl ?_
             refine AX_one (i := 10) (by decide +kernel) ?_
             refine xAlloc rfl rfl rfl rfl rfl rfl rfl rfl ?_
             refine AX_one (i := 12) (by decide +kernel) ?_
             refine xStw rfl (by decide) rfl rfl rfl rfl ?_
             refine AX_one (i := 13) (by decide +kernel) ?_
             refine xStw rfl (by decide) rfl rfl rfl rfl ?_
             refine AX_done (by decide +kernel) ?_)
          all_goals with_reducible refine tN ?_
          all_goals (
           refine CW_any (fun i => List.elem i [29]) 30 rfl lateOk (by decide +kernel) (fun hst => ?_)
           refine aP 0 hst rfl rfl (by decide +kernel) (PX_move rfl rfl) rfl rfl ?_
           refine aP 1 hst rfl rfl (by decide +kernel) (PX_move rfl rfl) rfl rfl ?_
           refine aP 2 hst rfl rfl (by decide +kernel) (PX_move rfl rfl) rfl rfl ?_
           first | refine aP 3 hst rfl rfl (by decide +kernel) (PX_binu rfl rfl rfl (by omega)) rfl rfl ?_ | refine aP 3 hst rfl rfl (by decide +kernel) (PX_bin rfl rfl rfl) rfl rfl ?_
           refine aQ 4 hst rfl rfl (by decide +kernel) (QX_of (Q_nrem (b := 3) rfl rfl (by decide)) NE_bin) rfl rfl ?_
           first | refine aQ 5 hst rfl rfl (by decide +kernel) (QX_of (Ia0 rfl rfl rfl rfl rfl rfl) NE_ix) rfl rfl ?_ | refine aQ 5 hst rfl rfl (by decide +kernel) (QX_of (Ia1 rfl rfl rfl rfl rfl rfl) NE_ix) rfl rfl ?_
           first | refine aQ 6 hst rfl rfl (by decide +kernel) (QX_of (Q_ldc rfl rfl rfl rfl rfl) NE_load) rfl rfl ?_ | refine aQ 6 hst rfl rfl (by decide +kernel) (QX_of (Ld rfl rfl rfl rfl) NE_load) rfl rfl ?_
           refine aP 7 hst rfl rfl (by decide +kernel) (PX_move rfl rfl) rfl rfl ?_
           first | refine aP 8 hst rfl rfl (by decide +kernel) (PX_binu rfl rfl rfl (by omega)) rfl rfl ?_ | refine aP 8 hst rfl rfl (by decide +kernel) (PX_bin rfl rfl rfl) rfl rfl ?_
           refine aQ 9 hst rfl rfl (by decide +kernel) (QX_of (Q_nrem (b := 3) rfl rfl (by decide)) NE_bin) rfl rfl ?_
           first | refine aQ 10 hst rfl rfl (by decide +kernel) (QX_of (Ia0 rfl rfl rfl rfl rfl rfl) NE_ix) rfl rfl ?_ | refine aQ 10 hst rfl rfl (by decide +kernel) (QX_of (Ia1 rfl rfl rfl rfl rfl rfl) NE_ix) rfl rfl ?_
           first | refine aQ 11 hst rfl rfl (by decide +kernel) (QX_of (Q_ldc rfl rfl rfl rfl rfl) NE_load) rfl rfl ?_ | refine aQ 11 hst rfl rfl (by decide +kernel) (QX_of (Ld rfl rfl rfl rfl) NE_load) rfl rfl ?_
           refine aMulN 12 hst rfl rfl (by decide +kernel) 12 12 rfl rfl (by omega) (by omega) (by decide) rfl (fun z39 hz39 hl39 hu39 => ?_)
           refine aP 13 hst rfl rfl (by decide +kernel) (PX_move rfl rfl) rfl rfl ?_
           first | refine aP 14 hst rfl rfl (by decide +kernel) (PX_binu rfl rfl rfl (by omega)) rfl rfl ?_ | refine aP 14 hst rfl rfl (by decide +kernel) (PX_bin rfl rfl rfl) rfl rfl ?_
           refine aQ 15 hst rfl rfl (by decide +kernel) (QX_of (Q_nrem (b := 3) rfl rfl (by decide)) NE_bin) rfl rfl ?_
           first | refine aQ 16 hst rfl rfl (by decide +kernel) (QX_of (Ia0 rfl rfl rfl rfl rfl rfl) NE_ix) rfl rfl ?_ | refine aQ 16 hst rfl rfl (by decide +kernel) (QX_of (Ia1 rfl rfl rfl rfl rfl rfl) NE_ix) rfl rfl ?_
           first | refine aQ 17 hst rfl rfl (by decide +kernel) (QX_of (Q_ldc rfl rfl rfl rfl rfl) NE_load) rfl rfl ?_ | refine aQ 17 hst rfl rfl (by decide +kernel) (QX_of (Ld rfl rfl rfl rfl) NE_load) rfl rfl ?_
           refine aP 18 hst rfl rfl (by decide +kernel) (PX_move rfl rfl) rfl rfl ?_
           first | refine aP 19 hst rfl rfl (by decide +kernel) (PX_binu rfl rfl rfl (by omega)) rfl rfl ?_ | refine aP 19 hst rfl rfl (by decide +kernel) (PX_bin rfl rfl rfl) rfl rfl ?_
           refine aQ 20 hst rfl rfl (by decide +kernel) (QX_of (Q_nrem (b := 3) rfl rfl (by decide)) NE_bin) rfl rfl ?_
           first | refine aQ 21 hst rfl rfl (by decide +kernel) (QX_of (Ia0 rfl rfl rfl rfl rfl rfl) NE_ix) rfl rfl ?_ | refine aQ 21 hst rfl rfl (by decide +kernel) (QX_of (Ia1 rfl rfl rfl rfl rfl rfl) NE_ix) rfl rfl ?_
           first | refine aQ 22 hst rfl rfl (by decide +kernel) (QX_of (Q_ldc rfl rfl rfl rfl rfl) NE_load) rfl rfl ?_ | refine aQ 22 hst rfl rfl (by decide +kernel) (QX_of (Ld rfl rfl rfl rfl) NE_load) rfl rfl ?_
           refine aMulN 23 hst rfl rfl (by decide +kernel) 12 12 rfl rfl (by omega) (by omega) (by decide) rfl (fun z50 hz50 hl50 hu50 => ?_)
           refine aQ 24 hst rfl rfl (by decide +kernel) (QX_of (Q_binu rfl rfl rfl (by omega)) NE_bin) rfl rfl ?_
           refine aP 25 hst rfl rfl (by decide +kernel) (PX_move rfl rfl) rfl rfl ?_
           subst hz39 hz50
           refine aQ 26 hst rfl rfl (by decide +kernel) (QX_call0 (mod_con _ p (by omega) (by omega)) rfl rfl rfl) rfl rfl ?_
           first | refine aQ 27 hst rfl rfl (by decide +kernel) (QX_of (Q_ixa0z 3 rfl rfl rfl rfl rfl rfl (by first | omega | (dsimp only; omega) | (simp; omega) | (simp; done))) NE_ix) rfl rfl ?_ | refine aQ 27 hst rfl rfl (by decide +kernel) (QX_of (Q_ixaz 3 rfl rfl rfl rfl rfl rfl (by first | omega | (dsimp only; omega) | (simp; omega) | (simp; done))) NE_ix) rfl rfl ?_
           first | refine aQ 28 hst rfl rfl (by decide +kernel) (QX_of (Ia0 rfl rfl rfl rfl rfl rfl) NE_ix) rfl rfl ?_ | refine aQ 28 hst rfl rfl (by decide +kernel) (QX_of (Ia1 rfl rfl rfl rfl rfl rfl) NE_ix) rfl rfl ?_
           refine AW_last [29] rfl (by decide +kernel) rfl ?_
           refine oS rfl rfl rfl rfl rfl ?_
           refine OW_nil (npN ?_))
          all_goals first | with_reducible refine bN ?_ | with_reducible refine bE ?_ | with_reducible refine bR ?_ | refine bX rfl ?_
          all_goals with_reducible refine tN ?_
          all_goals (
           refine CW_region ?_
           first | refine oQ (Q_binu rfl rfl rfl (by omega)) rfl rfl ?_ | refine oQ (Q_bin rfl rfl rfl) rfl rfl ?_
           refine oM rfl rfl ?_
           refine OW_nil ?_))
       all_goals first
         | with_reducible refine tR ?_
         | with_reducible refine tE ?_
         | (
          with_reducible refine tN ?_
          first
            | (
             refine ⟨0 + 1, ?_, ?_, View.mk' [] rfl rfl rfl ?_ ?_⟩
             · omega
             · omega
             all_goals (repeat' first | exact vFn | refine vFc rfl ?_ | exact vHn | refine vHc rfl ?_ | refine vFc (congrArg (fun z => some (V.int z)) ?_) ?_ | refine vHc (congrArg (fun z => some (Blk.ints _ z)) ?_) ?_ | refine vFc (congrArg (fun z => some (V.bool z)) ?_) ?_ | refine vFs rfl rfl ?_ ?_)
             all_goals first | rfl | omega
             done)
            | (
             refine ⟨1 + 1, ?_, ?_, View.mk' [] rfl rfl rfl ?_ ?_⟩
             · omega
             · omega
             all_goals (repeat' first | exact vFn | refine vFc rfl ?_ | exact vHn | refine vHc rfl ?_ | refine vFc (congrArg (fun z => some (V.int z)) ?_) ?_ | refine vHc (congrArg (fun z => some (Blk.ints _ z)) ?_) ?_ | refine vFc (congrArg (fun z => some (V.bool z)) ?_) ?_ | refine vFs rfl rfl ?_ ?_)
             all_goals first | rfl | omega
             done)
            | (
             refine ⟨2 + 1, ?_, ?_, View.mk' [] rfl rfl rfl ?_ ?_⟩
             · omega
             · omega
             all_goals (repeat' first | exact vFn | refine vFc rfl ?_ | exact vHn | refine vHc rfl ?_ | refine vFc (congrArg (fun z => some (V.int z)) ?_) ?_ | refine vHc (congrArg (fun z => some (Blk.ints _ z)) ?_) ?_ | refine vFc (congrArg (fun z => some (V.bool z)) ?_) ?_ | refine vFs rfl rfl ?_ ?_)
             all_goals first | rfl | omega
             done)))
      all_goals first | with_reducible refine bN ?_ | with_reducible refine bE ?_ | with_reducible refine bR ?_ | refine bX rfl ?_
      all_goals first | with_reducible refine bN ?_ | with_reducible refine bE ?_ | with_reducible refine bR ?_ | refine bX rfl ?_
      all_goals with_reducible refine tN ?_
      all_goals (
       refine CW_region ?_
       first | refine oQ (Q_binu rfl rfl rfl (by omega)) rfl rfl ?_ | refine oQ (Q_bin rfl rfl rfl) rfl rfl ?_
       refine oM rfl rfl ?_
       refine OW_nil ?_))
   all_goals first
     | with_reducible refine tR ?_
     | with_reducible refine tE ?_
     | (
      with_reducible refine tN ?_
      first
        | (
         refine ⟨0 + 1, ?_, ?_, View.mk' [] rfl rfl rfl ?_ ?_⟩
         · omega
         · omega
         all_goals (repeat' first | exact vFn | refine vFc rfl ?_ | exact vHn | refine vHc rfl ?_ | refine vFc (congrArg (fun z => some (V.int z)) ?_) ?_ | refine vHc (congrArg (fun z => some (Blk.ints _ z)) ?_) ?_ | refine vFc (congrArg (fun z => some (V.bool z)) ?_) ?_ | refine vFs rfl rfl ?_ ?_)
         all_goals first | rfl | omega
         done)
        | (
         refine ⟨1 + 1, ?_, ?_, View.mk' [] rfl rfl rfl ?_ ?_⟩
         · omega
         · omega
         all_goals (repeat' first | exact vFn | refine vFc rfl ?_ | exact vHn | refine vHc rfl ?_ | refine vFc (congrArg (fun z => some (V.int z)) ?_) ?_ | refine vHc (congrArg (fun z => some (Blk.ints _ z)) ?_) ?_ | refine vFc (congrArg (fun z => some (V.bool z)) ?_) ?_ | refine vFs rfl rfl ?_ ?_)
         all_goals first | rfl | omega
         done)
        | (
         refine ⟨2 + 1, ?_, ?_, View.mk' [] rfl rfl rfl ?_ ?_⟩
         · omega
         · omega
         all_goals (repeat' first | exact vFn | refine vFc rfl ?_ | exact vHn | refine vHc rfl ?_ | refine vFc (congrArg (fun z => some (V.int z)) ?_) ?_ | refine vHc (congrArg (fun z => some (Blk.ints _ z)) ?_) ?_ | refine vFc (congrArg (fun z => some (V.bool z)) ?_) ?_ | refine vFs rfl rfl ?_ ?_)
         all_goals first | rfl | omega
         done)))
  all_goals first | with_reducible refine bN ?_ | with_reducible refine bE ?_ | with_reducible refine bR ?_ | refine bX rfl ?_
  all_goals with_reducible refine tN ?_
  all_goals (
   refine cR ?_
   first | refine oQ (Lw rfl rfl rfl rfl) rfl rfl ?_ | refine oQ (La rfl rfl rfl rfl rfl) rfl rfl ?_
   first | refine oSw rfl rfl rfl rfl ?_ | refine oSa rfl rfl rfl rfl ?_
   refine oN ?_
   refine CW_ret ?_)
  all_goals (
   first | (exfalso; omega) | ((refine exitQ (.inr rfl) 0 (.cons (.arr rfl rfl rfl rfl (by first | omega | (dsimp only; omega) | (simp; omega) | (simp; done))) .nil) ?_ rfl vHn rfl rfl); rfl))
theorem adjoint_con (p : Int) (M : List Int) (hp : primeB p = true) (hM : M.length = 9) (hb : ∀ x ∈ M, 0 ≤ x ∧ x ≤ 12) : ConQ Try.prog [] 47 [.arr M, .int p] [] (.arr (adjV p M)) := by
  match M, hM with
  | [a0, a1, a2, a3, a4, a5, a6, a7, a8], _ => exact adjoint_con9 p a0 a1 a2 a3 a4 a5 a6 a7 a8 hp hb
end Go.Proofs.Ytoiolpgmilobnaa
namespace Go.Proofs.Ytoiolpgmilobnaa
set_option maxRecDepth 10000
set_option linter.unusedSimpArgs false
set_option linter.unusedVariables false
set_option linter.unusedSectionVars false
open Lean.Grind
section
variable {F : Type} [CommRing F]
/-- no vector but 0 is led to 0 -/
def NoN (P Q R S T U : F) : Prop := ∀ x y z : F, P * x + S * y + T * z = 0 → S * x + Q * y + U * z = 0 → T * x + U * y + R * z = 0 → x = 0 ∧ y = 0 ∧ z = 0
def dtS (P Q R S T U : F) : F := P * (Q * R - U * U) + S * (U * T - S * R) + T * (S * U - T * Q)
theorem dt_ne {P Q R S T U : F} (one : (1 : F) ≠ 0) (h : NoN P Q R S T U) : dtS P Q R S T U ≠ 0 := by
  intro hD
  unfold dtS at hD
  obtain ⟨a1, a2, a3⟩ := h (Q * R - U * U) (U * T - S * R) (S * U - T * Q) (by grind) (by grind) (by grind)
  obtain ⟨b1, b2, b3⟩ := h (U * T - S * R) (R * P - T * T) (T * S - P * U) (by grind) (by grind) (by grind)
  obtain ⟨c1, c2, c3⟩ := h (S * U - T * Q) (T * S - P * U) (P * Q - S * S) (by grind) (by grind) (by grind)
  obtain ⟨d1, d2, _⟩ := h S (-P) 0 (by grind) (by grind) (by grind)
  have hP : P = 0 := by grind
  obtain ⟨f1, _, _⟩ := h T 0 (-P) (by grind) (by grind) (by grind)
  subst hP
  obtain ⟨g, _, _⟩ := h 1 0 0 (by grind) (by grind) (by grind)
  exact one g
end
theorem get3 {l : List Int} (h : l.length = 3) : l = [l.getD 0 0, l.getD 1 0, l.getD 2 0] := by
  match l, h with
  | [a, b, c], _ => rfl
/-- a list that is a multiple of a normal one comes to it -/
theorem norm_scale {p : Int} (hp : primeB p = true) {n : Nat} [NeZero n] (en : p = (n : Int)) (hF : Fld (Fin n)) (hk : ∀ a : Fin n, ∃ k : Nat, (ic (k : Int) : Fin n) = a) {X b : List Int} (hX : X.length = 3) (hb3 : b.length = 3) (hb : normB p b = true) {s : Fin n} (hs : s ≠ 0) (h : ∀ j, j < 3 → (ic (X.getD j 0) : Fin n) = s * ic (b.getD j 0)) : normL p X = b := by
  obtain ⟨k, rfl⟩ := hk s
  refine norm_of_mul hp hb (k := (k : Int)) (fun e => hs ((ic_z n).2 (by rw [← en]; exact e))) ?_
  have e : ∀ j, j < 3 → X.getD j 0 % p = (k : Int) * b.getD j 0 % p := fun j hj => by
    rw [en, ← ic_eq (R := Fin n) n, ic_mul]; exact h j hj
  rw [get3 hX, get3 hb3]
  simp only [List.map_cons, List.map_nil]
  rw [e 0 (by decide), e 1 (by decide), e 2 (by decide)]
theorem fac_of_norm {p : Int} (hp : primeB p = true) {X b : List Int} (hb : normB p b = true) (h : normL p X = b) : facP p X ≠ 0 := by
  intro e
  rw [normL_zero e] at h
  rw [← h] at hb
  have : fnz (List.replicate X.length (0 : Int)) = 0 := by
    generalize X.length = q
    induction q with
    | zero => rfl
    | succ q ih => rw [List.replicate_succ]; simp only [fnz, if_true]; exact ih
  simp only [normB, Bool.and_eq_true, beq_iff_eq] at hb
  rw [this] at hb
  exact absurd hb.2 (by decide)
/-- the pole of a line -/
def poleX (p : Int) (c l : List Int) : List Int := normL p [dotV ((adjV p (matV p c)).take 3) l % p, dotV (((adjV p (matV p c)).drop 3).take 3) l % p, dotV (((adjV p (matV p c)).drop 6).take 3) l % p]
theorem dot3 (a b c x y z : Int) : dotV [a, b, c] [x, y, z] = a * x + b * y + c * z := by simp [dotV, dotT]
theorem fac_unit {p : Int} (hp : primeB p = true) {n : Nat} [NeZero n] (en : p = (n : Int)) {l : List Int} (h : facP p l ≠ 0) : (ic (facP p l) : Fin n) ≠ 0 := by
  intro e
  have hz : fnz (l.map (· % p)) ≠ 0 := fun e => h ((fac_zero hp l).2 e)
  have h1 := fac_inv hp hz
  have h2 := (ic_z n).1 e
  rw [← en] at h2
  rw [Int.mul_emod, h2, Int.mul_zero, Int.zero_emod] at h1
  exact absurd h1 (by decide)
theorem kind_non {p : Int} (hp : primeB p = true) {n : Nat} [NeZero n] (en : p = (n : Int)) (hF : Fld (Fin n)) {a b c d e f : Int} (hk : kdV p [a, b, c, d, e, f] = 0) : NoN (ic (2 * a) : Fin n) (ic (2 * b)) (ic (2 * c)) (ic d) (ic e) (ic f) := by
  have hr := kd_zero.1 hk
  obtain ⟨E, P, hE, hN⟩ := rk_spec hp (mR_B hp (c := [a, b, c, d, e, f]) rfl) n en hF
  rw [hr] at hE hN
  intro x y z h1 h2 h3
  have hx := (hN (fun j => match j with | 0 => x | 1 => y | _ => z)).1 (fun i hi => by
    have : i = 0 ∨ i = 1 ∨ i = 2 := by omega
    rcases this with rfl | rfl | rfl
    · show (0 + (ic (2 * a % p) : Fin n) * x + ic (d % p) * y + ic (e % p) * z) = 0
      rw [en]; simp only [ic_mod n]; grind
    · show (0 + (ic (d % p) : Fin n) * x + ic (2 * b % p) * y + ic (f % p) * z) = 0
      rw [en]; simp only [ic_mod n]; grind
    · show (0 + (ic (e % p) : Fin n) * x + ic (f % p) * y + ic (2 * c % p) * z) = 0
      rw [en]; simp only [ic_mod n]; grind)
  -- three rows of three: every column leads, so the vector is 0
  have hall : ∀ q, q ≤ 3 → ∀ j, 3 - q ≤ j → j < 3 → (match j with | 0 => x | 1 => y | _ => z) = 0 := by
    intro q
    induction q with
    | zero => intro _ j h1 h2; omega
    | succ q ih =>
      intro hq j h1 h2
      by_cases hj : 3 - q ≤ j
      · exact ih (by omega) j hj h2
      · have hjq : j = 3 - (q + 1) := by omega
        have hpv : ∃ i, i < 3 ∧ P i = j := by
          apply Classical.byContradiction
          intro hn
          have := pigeon 3 2 (fun i => if P i < j then P i else P i - 1) (fun i hi => by
            have a := hE.lt i hi
            have b : P i ≠ j := fun e => hn ⟨i, hi, e⟩
            split <;> omega) (fun i k hi hk e => by
            have b : P i ≠ j := fun e => hn ⟨i, hi, e⟩
            have b' : P k ≠ j := fun e => hn ⟨k, hk, e⟩
            refine ech_inj hF.1 hE hi hk ?_
            split at e <;> split at e <;> omega)
          omega
        have key : ∀ v : Nat → Fin n, NullV E 3 3 v → (∀ k, j < k → k < 3 → v k = 0) → v j = 0 := fun v hv hz => by
          -- a vector that is 0 behind j: cut it off at 3
          have := (ech_piv hF.1 hE h2).1 hpv (fun k => if k < 3 then v k else 0) (fun i hi => by
            have e : dt (E i) (fun k => if k < 3 then v k else 0) 3 = dt (E i) v 3 := by
              show (0 + E i 0 * v 0 + E i 1 * v 1 + E i 2 * v 2) = (0 + E i 0 * v 0 + E i 1 * v 1 + E i 2 * v 2)
              rfl
            rw [e]; exact hv i hi) (fun k hk => by
            split
            · rename_i h; exact hz k hk h
            · rfl)
          rwa [if_pos h2] at this
        exact key _ hx (fun k hk hk3 => ih (by omega) k (by omega) hk3)
  exact ⟨hall 3 (by decide) 0 (by decide) (by decide), hall 3 (by decide) 1 (by decide) (by decide), hall 3 (by decide) 2 (by decide) (by decide)⟩
section
variable {n : Nat} [NeZero n]
/-- what the matrix makes of a point, in the field -/
theorem pol_cast {p : Int} (en : p = (n : Int)) (a b c d e f x y z : Int) : (ic ((polX p [a, b, c, d, e, f] [x, y, z]).getD 0 0) : Fin n) = ic (2 * a) * ic x + ic d * ic y + ic e * ic z ∧ (ic ((polX p [a, b, c, d, e, f] [x, y, z]).getD 1 0) : Fin n) = ic d * ic x + ic (2 * b) * ic y + ic f * ic z ∧ (ic ((polX p [a, b, c, d, e, f] [x, y, z]).getD 2 0) : Fin n) = ic e * ic x + ic f * ic y + ic (2 * c) * ic z := by
  refine ⟨?_, ?_, ?_⟩
  · show (ic (dotV [2 * a % p, d % p, e % p] [x, y, z]) : Fin n) = _
    rw [dot3, en]; simp only [ic_add, ic_mul, ic_mod n]
  · show (ic (dotV [d % p, 2 * b % p, f % p] [x, y, z]) : Fin n) = _
    rw [dot3, en]; simp only [ic_add, ic_mul, ic_mod n]
  · show (ic (dotV [e % p, f % p, 2 * c % p] [x, y, z]) : Fin n) = _
    rw [dot3, en]; simp only [ic_add, ic_mul, ic_mod n]
theorem norm_cast {p : Int} (en : p = (n : Int)) (X : List Int) (j : Nat) : (ic ((normL p X).getD j 0) : Fin n) = ic (X.getD j 0) * ic (facP p X) := by
  rw [normL_get, en, ic_mod n, ic_mul, ic_mod n]
end
theorem norm_form {p : Int} (hp : primeB p = true) {a : List Int} (ha : a ∈ allPts p) : (∃ y z, a = [1, y, z] ∧ 0 ≤ y ∧ y < p ∧ 0 ≤ z ∧ z < p) ∨ (∃ z, a = [0, 1, z] ∧ 0 ≤ z ∧ z < p) ∨ a = [0, 0, 1] := by
  have hm := allPts_mod hp ha
  simp only [allPts, row1, rows2, row2, List.mem_append, List.mem_map, List.mem_flatMap, List.mem_singleton] at ha
  rcases ha with (rfl | ⟨z, _, rfl⟩) | ⟨y, _, z, _, rfl⟩
  · exact .inr (.inr rfl)
  · have hz := hm z (by simp)
    exact .inr (.inl ⟨_, rfl, hz⟩)
  · have hy := hm y (by simp)
    have hz := hm z (by simp)
    exact .inl ⟨_, _, rfl, hy.1, hy.2, hz⟩
theorem point3 {p : Int} {a : List Int} (h : a ∈ allPts p) (hp : primeB p = true) : a.length = 3 ∧ normB p a = true := by
  have hb := prime_bd hp
  rcases norm_form hp h with ⟨y, z, rfl, h1, h2, h3, h4⟩ | ⟨z, rfl, h1, h2⟩ | rfl
  · refine ⟨rfl, ?_⟩; simp [normB, modB, fnz]; omega
  · refine ⟨rfl, ?_⟩; simp [normB, modB, fnz]; omega
  · refine ⟨rfl, ?_⟩; simp [normB, modB, fnz]; omega
section
variable {F : Type} [CommRing F]
theorem adj_left {P Q R S T U x y z : F} : P * ((Q * R - U * U) * x + (U * T - R * S) * y + (S * U - T * Q) * z) + S * ((U * T - S * R) * x + (R * P - T * T) * y + (T * S - P * U) * z) + T * ((S * U - Q * T) * x + (T * S - U * P) * y + (P * Q - S * S) * z) = dtS P Q R S T U * x
    ∧ S * ((Q * R - U * U) * x + (U * T - R * S) * y + (S * U - T * Q) * z) + Q * ((U * T - S * R) * x + (R * P - T * T) * y + (T * S - P * U) * z) + U * ((S * U - Q * T) * x + (T * S - U * P) * y + (P * Q - S * S) * z) = dtS P Q R S T U * y
    ∧ T * ((Q * R - U * U) * x + (U * T - R * S) * y + (S * U - T * Q) * z) + U * ((U * T - S * R) * x + (R * P - T * T) * y + (T * S - P * U) * z) + R * ((S * U - Q * T) * x + (T * S - U * P) * y + (P * Q - S * S) * z) = dtS P Q R S T U * z := by
  unfold dtS; refine ⟨?_, ?_, ?_⟩ <;> grind
theorem adj_right {P Q R S T U x y z : F} : (Q * R - U * U) * (P * x + S * y + T * z) + (U * T - R * S) * (S * x + Q * y + U * z) + (S * U - T * Q) * (T * x + U * y + R * z) = dtS P Q R S T U * x
    ∧ (U * T - S * R) * (P * x + S * y + T * z) + (R * P - T * T) * (S * x + Q * y + U * z) + (T * S - P * U) * (T * x + U * y + R * z) = dtS P Q R S T U * y
    ∧ (S * U - Q * T) * (P * x + S * y + T * z) + (T * S - U * P) * (S * x + Q * y + U * z) + (P * Q - S * S) * (T * x + U * y + R * z) = dtS P Q R S T U * z := by
  unfold dtS; refine ⟨?_, ?_, ?_⟩ <;> grind
end
def poB (p : Int) (c l : List Int) : List Int := [dotV ((adjV p (matV p c)).take 3) l % p, dotV (((adjV p (matV p c)).drop 3).take 3) l % p, dotV (((adjV p (matV p c)).drop 6).take 3) l % p]
theorem poB_cast {n : Nat} [NeZero n] {p : Int} (en : p = (n : Int)) (a b c d e f x y z : Int) :
    (ic ((poB p [a, b, c, d, e, f] [x, y, z]).getD 0 0) : Fin n) = (ic (2 * b) * ic (2 * c) - ic f * ic f) * ic x + (ic f * ic e - ic (2 * c) * ic d) * ic y + (ic d * ic f - ic e * ic (2 * b)) * ic z
    ∧ (ic ((poB p [a, b, c, d, e, f] [x, y, z]).getD 1 0) : Fin n) = (ic f * ic e - ic d * ic (2 * c)) * ic x + (ic (2 * c) * ic (2 * a) - ic e * ic e) * ic y + (ic e * ic d - ic (2 * a) * ic f) * ic z
    ∧ (ic ((poB p [a, b, c, d, e, f] [x, y, z]).getD 2 0) : Fin n) = (ic d * ic f - ic (2 * b) * ic e) * ic x + (ic e * ic d - ic f * ic (2 * a)) * ic y + (ic (2 * a) * ic (2 * b) - ic d * ic d) * ic z := by
  refine ⟨?_, ?_, ?_⟩
  · show (ic (dotV [(2 * b % p * (2 * c % p) - f % p * (f % p)) % p, (f % p * (e % p) - 2 * c % p * (d % p)) % p, (d % p * (f % p) - e % p * (2 * b % p)) % p] [x, y, z] % p) : Fin n) = _
    rw [dot3, en]; simp only [ic_mod n, ic_add, ic_mul, ic_sub]
  · show (ic (dotV [(f % p * (e % p) - d % p * (2 * c % p)) % p, (2 * c % p * (2 * a % p) - e % p * (e % p)) % p, (e % p * (d % p) - 2 * a % p * (f % p)) % p] [x, y, z] % p) : Fin n) = _
    rw [dot3, en]; simp only [ic_mod n, ic_add, ic_mul, ic_sub]
  · show (ic (dotV [(d % p * (f % p) - 2 * b % p * (e % p)) % p, (e % p * (d % p) - f % p * (2 * a % p)) % p, (2 * a % p * (2 * b % p) - d % p * (d % p)) % p] [x, y, z] % p) : Fin n) = _
    rw [dot3, en]; simp only [ic_mod n, ic_add, ic_mul, ic_sub]
theorem norm_nz {p : Int} (hp : primeB p = true) {n : Nat} [NeZero n] (en : p = (n : Int)) {l : List Int} (h3 : l.length = 3) (h : normB p l = true) : ¬ ∀ j, j < 3 → (ic (l.getD j 0) : Fin n) = 0 := by
  intro hz
  match l, h3 with
  | [x, y, z], _ =>
    simp only [normB, modB, List.all_cons, List.all_nil, Bool.and_true, Bool.and_eq_true, decide_eq_true_eq, beq_iff_eq] at h
    obtain ⟨⟨⟨x1, x2⟩, ⟨y1, y2⟩, ⟨z1, z2⟩⟩, hf⟩ := h
    have e0 : x = 0 := ic_small x1 (by omega) (hz 0 (by decide))
    have e1 : y = 0 := ic_small y1 (by omega) (hz 1 (by decide))
    have e2 : z = 0 := ic_small z1 (by omega) (hz 2 (by decide))
    subst e0 e1 e2
    simp [fnz] at hf
theorem all3 {q : Nat → Prop} (h0 : q 0) (h1 : q 1) (h2 : q 2) : ∀ j, j < 3 → q j := fun j hj => by
  have : j = 0 ∨ j = 1 ∨ j = 2 := by omega
  rcases this with rfl | rfl | rfl
  · exact h0
  · exact h1
  · exact h2
/-- the polar of the pole is the line -/
theorem pole_ok {p : Int} (hp : primeB p = true) {c l : List Int} (hc6 : c.length = 6) (hk : kdV p c = 0) (hl : l ∈ allPts p) : poleX p c l ∈ allPts p ∧ facP p (polX p c (poleX p c l)) ≠ 0 ∧ normL p (polX p c (poleX p c l)) = l := by
  obtain ⟨n, _, en, hF, hks⟩ := fld_of hp
  obtain ⟨hl3, hln⟩ := point3 hl hp
  match c, hc6, l, hl3 with
  | [a, b, c', d, e, f], _, [u, v, w], _ =>
    have hN := kind_non hp en hF hk
    have hD := dt_ne hF.1 hN
    obtain ⟨x0, x1, x2⟩ := poB_cast (n := n) en a b c' d e f u v w
    have hnz := norm_nz hp en (l := [u, v, w]) rfl hln
    obtain ⟨i0, i1, i2⟩ := adj_left (P := (ic (2 * a) : Fin n)) (Q := ic (2 * b)) (R := ic (2 * c')) (S := ic d) (T := ic e) (U := ic f) (x := ic u) (y := ic v) (z := ic w)
    rw [← x0, ← x1, ← x2] at i0 i1 i2
    have hfB : facP p (poB p [a, b, c', d, e, f] [u, v, w]) ≠ 0 := fun h => by
      have hz := fnz_all.1 ((fac_zero hp _).1 h)
      have z : ∀ j, j < 3 → (ic ((poB p [a, b, c', d, e, f] [u, v, w]).getD j 0) : Fin n) = 0 := all3 ((ic_z n).2 (by rw [← en]; exact hz _ (by simp [poB]))) ((ic_z n).2 (by rw [← en]; exact hz _ (by simp [poB]))) ((ic_z n).2 (by rw [← en]; exact hz _ (by simp [poB])))
      rw [z 0 (by decide), z 1 (by decide), z 2 (by decide)] at i0 i1 i2
      exact hnz (all3 ((hF.2.1 _ _ (show dtS (ic (2 * a) : Fin n) (ic (2 * b)) (ic (2 * c')) (ic d) (ic e) (ic f) * ic u = 0 by rw [← i0]; grind)).resolve_left hD) ((hF.2.1 _ _ (show dtS (ic (2 * a) : Fin n) (ic (2 * b)) (ic (2 * c')) (ic d) (ic e) (ic f) * ic v = 0 by rw [← i1]; grind)).resolve_left hD) ((hF.2.1 _ _ (show dtS (ic (2 * a) : Fin n) (ic (2 * b)) (ic (2 * c')) (ic d) (ic e) (ic f) * ic w = 0 by rw [← i2]; grind)).resolve_left hD))
    have hs := fac_unit hp en hfB
    have hm : poleX p [a, b, c', d, e, f] [u, v, w] ∈ allPts p := norm_mem hp rfl hfB
    have n0 := norm_cast en (poB p [a, b, c', d, e, f] [u, v, w]) 0
    have n1 := norm_cast en (poB p [a, b, c', d, e, f] [u, v, w]) 1
    have n2 := norm_cast en (poB p [a, b, c', d, e, f] [u, v, w]) 2
    have hm3 := allPts_three hm
    have hfin : normL p (polX p [a, b, c', d, e, f] (poleX p [a, b, c', d, e, f] [u, v, w])) = [u, v, w] := by
      have hmd : poleX p [a, b, c', d, e, f] [u, v, w] = normL p (poB p [a, b, c', d, e, f] [u, v, w]) := rfl
      rw [hmd] at hm3 ⊢
      generalize normL p (poB p [a, b, c', d, e, f] [u, v, w]) = m at *
      match m, hm3 with
      | [m0, m1, m2], _ =>
        obtain ⟨q0, q1, q2⟩ := pol_cast (n := n) en a b c' d e f m0 m1 m2
        change (ic m0 : Fin n) = _ at n0
        change (ic m1 : Fin n) = _ at n1
        change (ic m2 : Fin n) = _ at n2
        refine norm_scale hp en hF hks rfl rfl hln (hF.ml hs hD) (all3 ?_ ?_ ?_)
        · rw [q0, n0, n1, n2]
          show _ = _ * _ * ic u
          rw [show ∀ s D x : Fin n, s * D * x = s * (D * x) by intro s D x; grind, ← i0]; grind
        · rw [q1, n0, n1, n2]
          show _ = _ * _ * ic v
          rw [show ∀ s D x : Fin n, s * D * x = s * (D * x) by intro s D x; grind, ← i1]; grind
        · rw [q2, n0, n1, n2]
          show _ = _ * _ * ic w
          rw [show ∀ s D x : Fin n, s * D * x = s * (D * x) by intro s D x; grind, ← i2]; grind
    exact ⟨hm, fac_of_norm hp hln hfin, hfin⟩
/-- and no other point has it -/
theorem pole_uniq {p : Int} (hp : primeB p = true) {c l m : List Int} (hc6 : c.length = 6) (hk : kdV p c = 0) (hm : m ∈ allPts p) (hf : facP p (polX p c m) ≠ 0) (he : normL p (polX p c m) = l) : poleX p c l = m := by
  obtain ⟨n, _, en, hF, hks⟩ := fld_of hp
  obtain ⟨hm3, hmn⟩ := point3 hm hp
  have hl3 : l.length = 3 := by rw [← he, normL_length]; rfl
  match c, hc6, m, hm3, l, hl3 with
  | [a, b, c', d, e, f], _, [x, y, z], _, [u, v, w], _ =>
    have hN := kind_non hp en hF hk
    have hD := dt_ne hF.1 hN
    have hs := fac_unit hp en hf
    obtain ⟨q0, q1, q2⟩ := pol_cast (n := n) en a b c' d e f x y z
    have n0 := norm_cast en (polX p [a, b, c', d, e, f] [x, y, z]) 0
    have n1 := norm_cast en (polX p [a, b, c', d, e, f] [x, y, z]) 1
    have n2 := norm_cast en (polX p [a, b, c', d, e, f] [x, y, z]) 2
    rw [he, q0] at n0
    rw [he, q1] at n1
    rw [he, q2] at n2
    change (ic u : Fin n) = _ at n0
    change (ic v : Fin n) = _ at n1
    change (ic w : Fin n) = _ at n2
    obtain ⟨x0, x1, x2⟩ := poB_cast (n := n) en a b c' d e f u v w
    obtain ⟨i0, i1, i2⟩ := adj_right (P := (ic (2 * a) : Fin n)) (Q := ic (2 * b)) (R := ic (2 * c')) (S := ic d) (T := ic e) (U := ic f) (x := ic x) (y := ic y) (z := ic z)
    rw [n0, n1, n2] at x0 x1 x2
    show normL p (poB p [a, b, c', d, e, f] [u, v, w]) = [x, y, z]
    refine norm_scale hp en hF hks rfl rfl hmn (hF.ml hs hD) (all3 ?_ ?_ ?_)
    · rw [x0]
      show _ = _ * _ * ic x
      rw [show ∀ s D x : Fin n, s * D * x = s * (D * x) by intro s D x; grind, ← i0]; grind
    · rw [x1]
      show _ = _ * _ * ic y
      rw [show ∀ s D x : Fin n, s * D * x = s * (D * x) by intro s D x; grind, ← i1]; grind
    · rw [x2]
      show _ = _ * _ * ic z
      rw [show ∀ s D x : Fin n, s * D * x = s * (D * x) by intro s D x; grind, ← i2]; grind
end Go.Proofs.Ytoiolpgmilobnaa
namespace Go.Proofs.Ytoiolpgmilobnaa
set_option maxRecDepth 10000
set_option linter.unusedSimpArgs false
set_option linter.unusedVariables false
set_option linter.unusedSectionVars false
open Lean.Grind
section
variable {F : Type} [CommRing F]
def qf (P Q R S T U x y z : F) : F := x * (P * x + S * y + T * z) + y * (S * x + Q * y + U * z) + z * (T * x + U * y + R * z)
theorem qf_polar (P Q R S T U x y z x' y' z' : F) : (1 + 1) * (x' * (P * x + S * y + T * z) + y' * (S * x + Q * y + U * z) + z' * (T * x + U * y + R * z)) = qf P Q R S T U (x + x') (y + y') (z + z') - qf P Q R S T U x y z - qf P Q R S T U x' y' z' := by unfold qf; grind
theorem zero_w {L M N a b c u v w : F} (h1 : 0 * u + N * v + -M * w = 0) (h2 : -N * u + 0 * v + L * w = 0) (h3 : M * u + -L * v + 0 * w = 0) (h5 : a * u + b * v + c * w = 0) : (L * a + M * b + N * c) * u = 0 ∧ (L * a + M * b + N * c) * v = 0 ∧ (L * a + M * b + N * c) * w = 0 := by
  refine ⟨?_, ?_, ?_⟩
  · have : (L * a + M * b + N * c) * u = L * (a * u + b * v + c * w) + b * (M * u + -L * v + 0 * w) - c * (-N * u + 0 * v + L * w) := by grind
    rw [this, h2, h3, h5]; grind
  · have : (L * a + M * b + N * c) * v = M * (a * u + b * v + c * w) - a * (M * u + -L * v + 0 * w) + c * (0 * u + N * v + -M * w) := by grind
    rw [this, h1, h3, h5]; grind
  · have : (L * a + M * b + N * c) * w = N * (a * u + b * v + c * w) + a * (-N * u + 0 * v + L * w) - b * (0 * u + N * v + -M * w) := by grind
    rw [this, h1, h2, h5]; grind
theorem no_line2 {P Q R S T U L M N a b c f : F} (hF : Fld F) (two : (1 : F) + 1 ≠ 0) (h : NoN P Q R S T U) (hq : ∀ x y z, L * x + M * y + N * z = 0 → qf P Q R S T U x y z = 0) (hf : f ≠ 0) (e1 : L = f * (P * a + S * b + T * c)) (e2 : M = f * (S * a + Q * b + U * c)) (e3 : N = f * (T * a + U * b + R * c)) (ha : L * a + M * b + N * c ≠ 0) : False := by
  -- the form of two vectors of the line is 0
  have hb : ∀ x y z x' y' z', L * x + M * y + N * z = 0 → L * x' + M * y' + N * z' = 0 → x' * (P * x + S * y + T * z) + y' * (S * x + Q * y + U * z) + z' * (T * x + U * y + R * z) = 0 := by
    intro x y z x' y' z' h1 h2
    have q3 : L * (x + x') + M * (y + y') + N * (z + z') = 0 := by
      have : L * (x + x') + M * (y + y') + N * (z + z') = (L * x + M * y + N * z) + (L * x' + M * y' + N * z') := by grind
      rw [this, h1, h2]; grind
    have := qf_polar P Q R S T U x y z x' y' z'
    rw [hq _ _ _ q3, hq _ _ _ h1, hq _ _ _ h2] at this
    have : (1 + 1) * (x' * (P * x + S * y + T * z) + y' * (S * x + Q * y + U * z) + z' * (T * x + U * y + R * z)) = 0 := by rw [this]; grind
    exact (hF.2.1 _ _ this).resolve_left two
  have key : ∀ x y z, L * x + M * y + N * z = 0 → x = 0 ∧ y = 0 ∧ z = 0 := by
    intro x y z hx
    have w1 := hb x y z 0 N (-M) hx (by grind)
    have w2 := hb x y z (-N) 0 L hx (by grind)
    have w3 := hb x y z M (-L) 0 hx (by grind)
    have w4 : f * (a * (P * x + S * y + T * z) + b * (S * x + Q * y + U * z) + c * (T * x + U * y + R * z)) = 0 := by
      have : f * (a * (P * x + S * y + T * z) + b * (S * x + Q * y + U * z) + c * (T * x + U * y + R * z)) = L * x + M * y + N * z := by rw [e1, e2, e3]; grind
      rw [this, hx]
    have w5 := (hF.2.1 _ _ w4).resolve_left hf
    have hh := h x y z
    generalize P * x + S * y + T * z = u at *
    generalize S * x + Q * y + U * z = v at *
    generalize T * x + U * y + R * z = w at *
    obtain ⟨g1, g2, g3⟩ := zero_w (L := L) (M := M) (N := N) (a := a) (b := b) (c := c) (u := u) (v := v) (w := w) w1 w2 w3 w5
    exact hh ((hF.2.1 _ _ g1).resolve_left ha) ((hF.2.1 _ _ g2).resolve_left ha) ((hF.2.1 _ _ g3).resolve_left ha)
  obtain ⟨_, hN, hM⟩ := key 0 N (-M) (by grind)
  obtain ⟨_, _, hL⟩ := key (-N) 0 L (by grind)
  have hM' : M = 0 := by have : M = -(-M) := by grind
                         rw [this, hM]; grind
  exact ha (by rw [hL, hN, hM']; grind)
end
theorem two_ne {p : Int} (hp : primeB p = true) {n : Nat} [NeZero n] (en : p = (n : Int)) : (1 : Fin n) + 1 ≠ 0 := by
  have hb := prime_bd hp
  intro h
  have e : (ic 2 : Fin n) = 1 + 1 := by
    show (ic (1 + 1) : Fin n) = 1 + 1
    rw [ic_add, ic_one]
  rw [← e] at h
  have := (ic_z n).1 h
  rw [← en, Int.emod_eq_of_lt (by omega) (by omega)] at this
  omega
theorem con_qf {n : Nat} [NeZero n] {p : Int} (en : p = (n : Int)) (a b c d e f x y z : Int) : (1 + 1) * (ic (conV p [a, b, c, d, e, f] [x, y, z]) : Fin n) = qf (ic (2 * a)) (ic (2 * b)) (ic (2 * c)) (ic d) (ic e) (ic f) (ic x) (ic y) (ic z) := by
  have e2 : (ic 2 : Fin n) = 1 + 1 := by
    show (ic (1 + 1) : Fin n) = 1 + 1
    rw [ic_add, ic_one]
  rw [con_eq, en, ic_mod n]
  simp only [ic_add, ic_mul, e2]
  unfold qf; grind
theorem on_cast {n : Nat} [NeZero n] {p : Int} (en : p = (n : Int)) (x y z u v w : Int) : onB p [x, y, z] [u, v, w] = true ↔ (ic u : Fin n) * ic x + ic v * ic y + ic w * ic z = 0 := by
  unfold onB
  rw [beq_iff_eq, dot3, en, ← ic_z (R := Fin n) n]
  simp only [ic_add, ic_mul]
  constructor
  · intro h; rw [← h]; grind
  · intro h; rw [← h]; grind
/-- the polar of a point off the conic: it is a line, the point is off it, and one of its points is off the conic -/
theorem tri_ex {p : Int} (hp : primeB p = true) {c a : List Int} (hc6 : c.length = 6) (hk : kdV p c = 0) (ha : a ∈ allPts p) (hne : conV p c a ≠ 0) : facP p (polX p c a) ≠ 0 ∧ onB p a (normL p (polX p c a)) = false ∧ ∃ m, m ∈ allPts p ∧ onB p m (normL p (polX p c a)) = true ∧ conV p c m ≠ 0 := by
  obtain ⟨n, _, en, hF, hks⟩ := fld_of hp
  have hb := prime_bd hp
  obtain ⟨ha3, han⟩ := point3 ha hp
  match c, hc6, a, ha3 with
  | [a, b, c', d, e, f], _, [x, y, z], _ =>
    have hN := kind_non hp en hF hk
    have h2 := two_ne hp en
    have hca : (ic (conV p [a, b, c', d, e, f] [x, y, z]) : Fin n) ≠ 0 := fun h => by
      have hbd := conV_bd hp [a, b, c', d, e, f] [x, y, z]
      exact hne (ic_small hbd.1 (by omega) h)
    have hqa := con_qf (n := n) en a b c' d e f x y z
    obtain ⟨q0, q1, q2⟩ := pol_cast (n := n) en a b c' d e f x y z
    have hqn : qf (ic (2 * a) : Fin n) (ic (2 * b)) (ic (2 * c')) (ic d) (ic e) (ic f) (ic x) (ic y) (ic z) ≠ 0 := by rw [← hqa]; exact hF.ml h2 hca
    have hfp : facP p (polX p [a, b, c', d, e, f] [x, y, z]) ≠ 0 := fun h => by
      have hz := fnz_all.1 ((fac_zero hp _).1 h)
      have z0 : (ic ((polX p [a, b, c', d, e, f] [x, y, z]).getD 0 0) : Fin n) = 0 := (ic_z n).2 (by rw [← en]; exact hz _ (by simp [polX]))
      have z1 : (ic ((polX p [a, b, c', d, e, f] [x, y, z]).getD 1 0) : Fin n) = 0 := (ic_z n).2 (by rw [← en]; exact hz _ (by simp [polX]))
      have z2 : (ic ((polX p [a, b, c', d, e, f] [x, y, z]).getD 2 0) : Fin n) = 0 := (ic_z n).2 (by rw [← en]; exact hz _ (by simp [polX]))
      rw [q0] at z0
      rw [q1] at z1
      rw [q2] at z2
      apply hqn
      unfold qf
      rw [z0, z1, z2]; grind
    have hs := fac_unit hp en hfp
    have n0 := norm_cast en (polX p [a, b, c', d, e, f] [x, y, z]) 0
    have n1 := norm_cast en (polX p [a, b, c', d, e, f] [x, y, z]) 1
    have n2 := norm_cast en (polX p [a, b, c', d, e, f] [x, y, z]) 2
    rw [q0] at n0
    rw [q1] at n1
    rw [q2] at n2
    have hl3 : (normL p (polX p [a, b, c', d, e, f] [x, y, z])).length = 3 := by rw [normL_length]; rfl
    refine ⟨hfp, ?_⟩
    generalize normL p (polX p [a, b, c', d, e, f] [x, y, z]) = l at *
    match l, hl3 with
    | [u, v, w], _ =>
      change (ic u : Fin n) = _ at n0
      change (ic v : Fin n) = _ at n1
      change (ic w : Fin n) = _ at n2
      have hLa : (ic u : Fin n) * ic x + ic v * ic y + ic w * ic z ≠ 0 := by
        have : (ic u : Fin n) * ic x + ic v * ic y + ic w * ic z = ic (facP p (polX p [a, b, c', d, e, f] [x, y, z])) * qf (ic (2 * a) : Fin n) (ic (2 * b)) (ic (2 * c')) (ic d) (ic e) (ic f) (ic x) (ic y) (ic z) := by
          rw [n0, n1, n2]; unfold qf; grind
        rw [this]; exact hF.ml hs hqn
      refine ⟨?_, ?_⟩
      · cases ho : onB p [x, y, z] [u, v, w] with
        | false => rfl
        | true => exact absurd ((on_cast en _ _ _ _ _ _).1 ho) hLa
      · apply Classical.byContradiction
        intro hno
        have hall : ∀ m, m ∈ allPts p → onB p m [u, v, w] = true → conV p [a, b, c', d, e, f] m = 0 := fun m hm ho => Classical.byContradiction fun h => hno ⟨m, hm, ho, h⟩
        refine no_line2 hF h2 hN (L := ic u) (M := ic v) (N := ic w) (a := ic x) (b := ic y) (c := ic z) (f := ic (facP p (polX p [a, b, c', d, e, f] [x, y, z]))) ?_ hs (by rw [n0]; grind) (by rw [n1]; grind) (by rw [n2]; grind) hLa
        intro X Y Z hX
        obtain ⟨k0, e0⟩ := hks X
        obtain ⟨k1, e1⟩ := hks Y
        obtain ⟨k2, e2⟩ := hks Z
        by_cases hfz : facP p [(k0 : Int), (k1 : Int), (k2 : Int)] = 0
        · have hz := fnz_all.1 ((fac_zero hp _).1 hfz)
          have z0 : X = 0 := by rw [← e0]; exact (ic_z n).2 (by rw [← en]; exact hz k0 (by simp))
          have z1 : Y = 0 := by rw [← e1]; exact (ic_z n).2 (by rw [← en]; exact hz k1 (by simp))
          have z2 : Z = 0 := by rw [← e2]; exact (ic_z n).2 (by rw [← en]; exact hz k2 (by simp))
          unfold qf; rw [z0, z1, z2]; grind
        · have hsv := fac_unit hp en hfz
          have hm := norm_mem hp (l := [(k0 : Int), (k1 : Int), (k2 : Int)]) rfl hfz
          have m0 := norm_cast en [(k0 : Int), (k1 : Int), (k2 : Int)] 0
          have m1 := norm_cast en [(k0 : Int), (k1 : Int), (k2 : Int)] 1
          have m2 := norm_cast en [(k0 : Int), (k1 : Int), (k2 : Int)] 2
          change _ = (ic (k0 : Int) : Fin n) * _ at m0
          change _ = (ic (k1 : Int) : Fin n) * _ at m1
          change _ = (ic (k2 : Int) : Fin n) * _ at m2
          rw [e0] at m0
          rw [e1] at m1
          rw [e2] at m2
          have hm3 := allPts_three hm
          generalize normL p [(k0 : Int), (k1 : Int), (k2 : Int)] = m at *
          match m, hm3 with
          | [r, s, t], _ =>
            change (ic r : Fin n) = _ at m0
            change (ic s : Fin n) = _ at m1
            change (ic t : Fin n) = _ at m2
            have ho : onB p [r, s, t] [u, v, w] = true := (on_cast en _ _ _ _ _ _).2 (by
              rw [m0, m1, m2]
              have : ∀ A B C D E G s : Fin n, A * (X * s) + B * (Y * s) + C * (Z * s) = s * (A * X + B * Y + C * Z) := fun A B C D E G s => by grind
              rw [this _ _ _ 0 0 0, hX]; grind)
            have hz := hall _ hm ho
            have hq := con_qf (n := n) en a b c' d e f r s t
            rw [hz, ic_zero, m0, m1, m2] at hq
            have hq2 : ic (facP p [(k0 : Int), (k1 : Int), (k2 : Int)]) * ic (facP p [(k0 : Int), (k1 : Int), (k2 : Int)]) * qf (ic (2 * a) : Fin n) (ic (2 * b)) (ic (2 * c')) (ic d) (ic e) (ic f) X Y Z = 0 := by
              have : ∀ P Q R S T U s : Fin n, qf P Q R S T U (X * s) (Y * s) (Z * s) = s * s * qf P Q R S T U X Y Z := fun P Q R S T U s => by unfold qf; grind
              rw [← this, ← hq]; grind
            exact (hF.2.1 _ _ hq2).resolve_left (hF.ml hsv hsv)
/-- two different points have a line -/
theorem cross_ne {p : Int} (hp : primeB p = true) {a b : List Int} (ha : a ∈ allPts p) (hb : b ∈ allPts p) (hne : a ≠ b) : facP p (crossT a b) ≠ 0 := by
  obtain ⟨n, _, en, hF, hks⟩ := fld_of hp
  obtain ⟨ha3, han⟩ := point3 ha hp
  obtain ⟨hb3, hbn⟩ := point3 hb hp
  intro h
  have hz := fnz_all.1 ((fac_zero hp _).1 h)
  match a, ha3, b, hb3 with
  | [x, y, z], _, [u, v, w], _ =>
    have c0 : (ic (y * w - z * v) : Fin n) = 0 := (ic_z n).2 (by rw [← en]; exact hz _ (by simp [crossT]))
    have c1 : (ic (z * u - x * w) : Fin n) = 0 := (ic_z n).2 (by rw [← en]; exact hz _ (by simp [crossT]))
    have c2 : (ic (x * v - y * u) : Fin n) = 0 := (ic_z n).2 (by rw [← en]; exact hz _ (by simp [crossT]))
    simp only [ic_sub, ic_mul] at c0 c1 c2
    have na := norm_nz hp en (l := [x, y, z]) rfl han
    have nb := norm_nz hp en (l := [u, v, w]) rfl hbn
    have fin : ∀ s : Fin n, ic u = s * ic x → ic v = s * ic y → ic w = s * ic z → False := fun s g0 g1 g2 => by
      have hs : s ≠ 0 := fun e => nb (all3 (by show (ic u : Fin n) = 0; rw [g0, e]; grind) (by show (ic v : Fin n) = 0; rw [g1, e]; grind) (by show (ic w : Fin n) = 0; rw [g2, e]; grind))
      have r1 := norm_scale hp en hF hks (X := [u, v, w]) (b := [x, y, z]) rfl rfl han hs (all3 g0 g1 g2)
      have r2 := norm_scale hp en hF hks (X := [u, v, w]) (b := [u, v, w]) rfl rfl hbn hF.1 (all3 (by grind) (by grind) (by grind))
      exact hne (by rw [← r1, r2])
    by_cases hx : (ic x : Fin n) = 0
    · by_cases hy : (ic y : Fin n) = 0
      · by_cases hzz : (ic z : Fin n) = 0
        · exact na (all3 hx hy hzz)
        · obtain ⟨i, hi⟩ := hF.2.2 _ hzz
          exact fin (ic w * i) (by grind) (by grind) (by grind)
      · obtain ⟨i, hi⟩ := hF.2.2 _ hy
        exact fin (ic v * i) (by grind) (by grind) (by grind)
    · obtain ⟨i, hi⟩ := hF.2.2 _ hx
      exact fin (ic u * i) (by grind) (by grind) (by grind)
end Go.Proofs.Ytoiolpgmilobnaa
namespace Go.Proofs.Ytoiolpgmilobnaa
set_option maxRecDepth 10000
set_option linter.unusedSimpArgs false
set_option linter.unusedVariables false
set_option maxHeartbeats 4000000
def minT (p : Int) (M : List Int) (n : Nat) : List Int := (List.range n).map fun t => mn p M (t / 3) (t % 3)
theorem minT_len (p : Int) (M : List Int) (n : Nat) : (minT p M n).length = n := by simp [minT]
attribute [local simp] minT_len
attribute [local irreducible] CW OW QW QOp Con thenP inBlockP AW QX RW AX
end Go.Proofs.Ytoiolpgmilobnaa
