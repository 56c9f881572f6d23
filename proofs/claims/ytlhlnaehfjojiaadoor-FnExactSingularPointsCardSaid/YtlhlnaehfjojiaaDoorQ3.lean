/- Points on lines and on conics, on both sides. Printed by gen_q3.py. -/
import Derived.Test.YtlhlnaehfjojiaaDoorQ2
namespace Go.Proofs.YtlhlnaehfjojiaaDoor
attribute [local irreducible] CW OW QW QOp Con thenP inBlockP
set_option maxRecDepth 10000
set_option linter.unusedSimpArgs false
set_option linter.unusedVariables false
/-- small numbers -/
def sm (B : Int) (l : List Int) : Prop := ∀ x ∈ l, -B ≤ x ∧ x ≤ B
theorem sm_get {B : Int} {l : List Int} (h : sm B l) (hB : 0 ≤ B) (i : Nat) : -B ≤ l.getD i 0 ∧ l.getD i 0 ≤ B := by
  by_cases hi : i < l.length
  · have : l.getD i 0 = l[i] := by simp [List.getD, hi]
    rw [this]; exact h _ (List.getElem_mem hi)
  · have : l.getD i 0 = 0 := by simp [List.getD, hi]
    rw [this]; omega
theorem sm_mono {B C : Int} {l : List Int} (h : sm B l) (hB : B ≤ C) : sm C l := fun x hx => by have := h x hx; omega
theorem sm_mod {p : Int} {l : List Int} (hp : primeB p = true) (h : modB p l = true) : sm 13 l := fun x hx => by
  have := prime_bd hp
  have := mod_list h x hx; omega
theorem sm_point {p : Int} {l : List Int} (h : pointB p l = true) : sm 13 l := by
  simp only [pointB, normB, Bool.and_eq_true] at h
  exact sm_mod h.1 h.2.1
theorem allPts_mod {p : Int} (hp : primeB p = true) {x : List Int} (h : x ∈ allPts p) : ∀ z ∈ x, 0 ≤ z ∧ z < p := by
  have hb := prime_bd hp
  simp only [allPts, row1, rows2, row2, List.mem_append, List.mem_map, List.mem_flatMap, List.mem_singleton, List.mem_range] at h
  rcases h with (rfl | ⟨a, ha, rfl⟩) | ⟨a, ha, b, hb, rfl⟩ <;> intro z hz <;> simp only [List.mem_cons, List.not_mem_nil, or_false] at hz <;> omega
theorem allPts_sm {p : Int} (hp : primeB p = true) {x : List Int} (h : x ∈ allPts p) : sm 13 x := fun z hz => by
  have := allPts_mod hp h z hz
  have := prime_bd hp
  omega
/-- the sum of the products of the first i numbers -/
def dotT (c w : List Int) : Nat → Int
  | 0 => 0
  | i + 1 => dotT c w i + c.getD i 0 * w.getD i 0
theorem dotT_bd {A B : Int} {c w : List Int} (hc : sm A c) (hw : sm B w) (hA : 0 ≤ A) (hB : 0 ≤ B) (i : Nat) : -(i * (A * B)) ≤ dotT c w i ∧ dotT c w i ≤ i * (A * B) := by
  induction i with
  | zero => simp [dotT]
  | succ i ih =>
    have h1 := sm_get hc hA i
    have h2 := sm_get hw hB i
    have h3 := mul_bds h1.1 h1.2 h2.1 h2.2
    simp only [dotT, Int.natCast_add, Int.natCast_one, Int.add_mul, Int.one_mul]
    omega
def dotV (a b : List Int) : Int := dotT a b 3
def onB (p : Int) (a l : List Int) : Bool := dotV a l % p == 0
def pw : List Int → List Int
  | [x, y, z] => [x * x, y * y, z * z, x * y, x * z, y * z]
  | _ => []
def conV (p : Int) (c a : List Int) : Int := dotT c (pw a) 6 % p
theorem sm3 {B a b c : Int} : sm B [a, b, c] ↔ (-B ≤ a ∧ a ≤ B) ∧ (-B ≤ b ∧ b ≤ B) ∧ (-B ≤ c ∧ c ≤ B) := by simp [sm]
theorem pw_sm {a : List Int} (h : sm 13 a) (hl : a.length = 3) : sm 169 (pw a) := by
  match a, hl with
  | [x, y, z], _ =>
    obtain ⟨hx, hy, hz⟩ := sm3.1 h
    intro u hu
    simp only [pw, List.mem_cons, List.not_mem_nil, or_false] at hu
    rcases hu with rfl | rfl | rfl | rfl | rfl | rfl
    · exact mul_bds hx.1 hx.2 hx.1 hx.2
    · exact mul_bds hy.1 hy.2 hy.1 hy.2
    · exact mul_bds hz.1 hz.2 hz.1 hz.2
    · exact mul_bds hx.1 hx.2 hy.1 hy.2
    · exact mul_bds hx.1 hx.2 hz.1 hz.2
    · exact mul_bds hy.1 hy.2 hz.1 hz.2
theorem pw_length {a : List Int} (hl : a.length = 3) : (pw a).length = 6 := by
  match a, hl with
  | [x, y, z], _ => rfl
theorem tmod_zero (x p : Int) : (x.tmod p = 0) ↔ (x % p = 0) := by
  rw [← Int.dvd_iff_tmod_eq_zero, Int.dvd_iff_emod_eq_zero]
theorem dot_con3 (p a b c x y z : Int) (hp : primeB p = true) (h1 : sm 13 [a, b, c]) (h2 : sm 13 [x, y, z]) : ConQ Tryd.prog [] 142 [.int p, .arr [a, b, c], .arr [x, y, z]] [] (.int (dotV [a, b, c] [x, y, z] % p)) := by
  obtain ⟨ha, hb, hc⟩ := sm3.1 h1
  obtain ⟨hx, hy, hz⟩ := sm3.1 h2
  have hpb := prime_bd hp
  refine conW tab_ok [(0, .int p), (1, .arr [a, b, c]), (2, .arr [x, y, z])] 0 [] [] Tryd.func142 rfl rfl rfl rfl rfl rfl rfl rfl rfl ?_
  refine cR ?_
  iterate 2 refine oBox rfl rfl rfl rfl rfl rfl ?_
  refine oA rfl rfl ?_
  refine oN ?_
  refine cR ?_
  first | refine oQ (Ia0 rfl rfl rfl rfl rfl rfl) rfl rfl ?_ | refine oQ (Ia1 rfl rfl rfl rfl rfl rfl) rfl rfl ?_
  first | refine oQ (Q_ldc rfl rfl rfl rfl rfl) rfl rfl ?_ | refine oQ (Ld rfl rfl rfl rfl) rfl rfl ?_
  first | refine oQ (Ia0 rfl rfl rfl rfl rfl rfl) rfl rfl ?_ | refine oQ (Ia1 rfl rfl rfl rfl rfl rfl) rfl rfl ?_
  first | refine oQ (Q_ldc rfl rfl rfl rfl rfl) rfl rfl ?_ | refine oQ (Ld rfl rfl rfl rfl) rfl rfl ?_
  refine oMul 13 13 rfl rfl (by omega) (by omega) (by decide) rfl (fun z11 hz11 hl11 hu11 => ?_)
  first | refine oQ (Ia0 rfl rfl rfl rfl rfl rfl) rfl rfl ?_ | refine oQ (Ia1 rfl rfl rfl rfl rfl rfl) rfl rfl ?_
  first | refine oQ (Q_ldc rfl rfl rfl rfl rfl) rfl rfl ?_ | refine oQ (Ld rfl rfl rfl rfl) rfl rfl ?_
  first | refine oQ (Ia0 rfl rfl rfl rfl rfl rfl) rfl rfl ?_ | refine oQ (Ia1 rfl rfl rfl rfl rfl rfl) rfl rfl ?_
  first | refine oQ (Q_ldc rfl rfl rfl rfl rfl) rfl rfl ?_ | refine oQ (Ld rfl rfl rfl rfl) rfl rfl ?_
  refine oMul 13 13 rfl rfl (by omega) (by omega) (by decide) rfl (fun z16 hz16 hl16 hu16 => ?_)
  first | refine oQ (Q_binu rfl rfl rfl (by omega)) rfl rfl ?_ | refine oQ (Q_bin rfl rfl rfl) rfl rfl ?_
  first | refine oQ (Ia0 rfl rfl rfl rfl rfl rfl) rfl rfl ?_ | refine oQ (Ia1 rfl rfl rfl rfl rfl rfl) rfl rfl ?_
  first | refine oQ (Q_ldc rfl rfl rfl rfl rfl) rfl rfl ?_ | refine oQ (Ld rfl rfl rfl rfl) rfl rfl ?_
  first | refine oQ (Ia0 rfl rfl rfl rfl rfl rfl) rfl rfl ?_ | refine oQ (Ia1 rfl rfl rfl rfl rfl rfl) rfl rfl ?_
  first | refine oQ (Q_ldc rfl rfl rfl rfl rfl) rfl rfl ?_ | refine oQ (Ld rfl rfl rfl rfl) rfl rfl ?_
  refine oMul 13 13 rfl rfl (by omega) (by omega) (by decide) rfl (fun z22 hz22 hl22 hu22 => ?_)
  first | refine oQ (Q_binu rfl rfl rfl (by omega)) rfl rfl ?_ | refine oQ (Q_bin rfl rfl rfl) rfl rfl ?_
  refine oM rfl rfl ?_
  refine oQ (Q_call0 (mod_con _ _ (by omega) (by omega)) rfl rfl rfl) rfl rfl ?_
  refine oA rfl rfl ?_
  refine oN ?_
  refine CW_ret ?_
  all_goals (
   subst hz11 hz16 hz22
   refine exitQ (.inr rfl) 0 (.cons (.tmp rfl rfl) .nil) ?_ rfl vHn rfl rfl
   simp [resV, dotV, dotT])
theorem dot_con (p : Int) (a b : List Int) (hp : primeB p = true) (ha : a.length = 3) (hb : b.length = 3) (h1 : sm 13 a) (h2 : sm 13 b) : ConQ Tryd.prog [] 142 [.int p, .arr a, .arr b] [] (.int (dotV a b % p)) := by
  match a, ha, b, hb with
  | [a, b, c], _, [x, y, z], _ => exact dot_con3 p a b c x y z hp h1 h2
theorem isOn_con (p : Int) (a l : List Int) (hp : primeB p = true) (ha : a.length = 3) (hl : l.length = 3) (h1 : sm 13 a) (h2 : sm 13 l) : ConQ Tryd.prog [] 121 [.int p, .arr a, .arr l] [] (.bool (onB p a l)) := by
  refine conW tab_ok [(0, .int p), (1, .arr a), (2, .arr l)] 0 [] [] Tryd.func121 rfl rfl rfl rfl rfl rfl rfl rfl rfl ?_
  refine cR ?_
  iterate 2 refine oBox rfl rfl rfl rfl rfl rfl ?_
  refine oA rfl rfl ?_
  refine oN ?_
  refine cR ?_
  refine oM rfl rfl ?_
  refine oQ (Q_ldw rfl rfl rfl rfl ha) rfl rfl ?_
  refine oQ (Q_ldw rfl rfl rfl rfl hl) rfl rfl ?_
  refine oQ (Q_call0 (dot_con p a l hp ha hl h1 h2) rfl rfl rfl) rfl rfl ?_
  refine oQ (Q_bin rfl rfl rfl) rfl rfl ?_
  refine oA rfl rfl ?_
  refine oN ?_
  refine CW_ret ?_
  all_goals (
   ((refine exitQ (.inr rfl) 0 (.cons (.tmp rfl rfl) .nil) ?_ rfl vHn rfl rfl); rfl))
theorem l01On_con3 (p a b c x y z : Int) (hp : primeB p = true) (h1 : sm 13 [a, b, c]) (h2 : sm 13 [x, y, z]) : ConQ Tryd.prog [] 116 [.int p, .arr [a, b, c], .arr [x, y, z]] [] (.bool (onB p [a, b, c] [x, y, z])) := by
  obtain ⟨ha, hb, hc⟩ := sm3.1 h1
  obtain ⟨hx, hy, hz⟩ := sm3.1 h2
  have hpb := prime_bd hp
  refine conW tab_ok [(0, .int p), (1, .arr [a, b, c]), (2, .arr [x, y, z])] 0 [] [] Tryd.func116 rfl rfl rfl rfl rfl rfl rfl rfl rfl ?_
  refine cR ?_
  iterate 2 refine oBox rfl rfl rfl rfl rfl rfl ?_
  refine oA rfl rfl ?_
  refine oN ?_
  refine cR ?_
  first | refine oQ (Ia0 rfl rfl rfl rfl rfl rfl) rfl rfl ?_ | refine oQ (Ia1 rfl rfl rfl rfl rfl rfl) rfl rfl ?_
  first | refine oQ (Q_ldc rfl rfl rfl rfl rfl) rfl rfl ?_ | refine oQ (Ld rfl rfl rfl rfl) rfl rfl ?_
  first | refine oQ (Ia0 rfl rfl rfl rfl rfl rfl) rfl rfl ?_ | refine oQ (Ia1 rfl rfl rfl rfl rfl rfl) rfl rfl ?_
  first | refine oQ (Q_ldc rfl rfl rfl rfl rfl) rfl rfl ?_ | refine oQ (Ld rfl rfl rfl rfl) rfl rfl ?_
  refine oMul 13 13 rfl rfl (by omega) (by omega) (by decide) rfl (fun z11 hz11 hl11 hu11 => ?_)
  first | refine oQ (Ia0 rfl rfl rfl rfl rfl rfl) rfl rfl ?_ | refine oQ (Ia1 rfl rfl rfl rfl rfl rfl) rfl rfl ?_
  first | refine oQ (Q_ldc rfl rfl rfl rfl rfl) rfl rfl ?_ | refine oQ (Ld rfl rfl rfl rfl) rfl rfl ?_
  first | refine oQ (Ia0 rfl rfl rfl rfl rfl rfl) rfl rfl ?_ | refine oQ (Ia1 rfl rfl rfl rfl rfl rfl) rfl rfl ?_
  first | refine oQ (Q_ldc rfl rfl rfl rfl rfl) rfl rfl ?_ | refine oQ (Ld rfl rfl rfl rfl) rfl rfl ?_
  refine oMul 13 13 rfl rfl (by omega) (by omega) (by decide) rfl (fun z16 hz16 hl16 hu16 => ?_)
  first | refine oQ (Q_binu rfl rfl rfl (by omega)) rfl rfl ?_ | refine oQ (Q_bin rfl rfl rfl) rfl rfl ?_
  first | refine oQ (Ia0 rfl rfl rfl rfl rfl rfl) rfl rfl ?_ | refine oQ (Ia1 rfl rfl rfl rfl rfl rfl) rfl rfl ?_
  first | refine oQ (Q_ldc rfl rfl rfl rfl rfl) rfl rfl ?_ | refine oQ (Ld rfl rfl rfl rfl) rfl rfl ?_
  first | refine oQ (Ia0 rfl rfl rfl rfl rfl rfl) rfl rfl ?_ | refine oQ (Ia1 rfl rfl rfl rfl rfl rfl) rfl rfl ?_
  first | refine oQ (Q_ldc rfl rfl rfl rfl rfl) rfl rfl ?_ | refine oQ (Ld rfl rfl rfl rfl) rfl rfl ?_
  refine oMul 13 13 rfl rfl (by omega) (by omega) (by decide) rfl (fun z22 hz22 hl22 hu22 => ?_)
  first | refine oQ (Q_binu rfl rfl rfl (by omega)) rfl rfl ?_ | refine oQ (Q_bin rfl rfl rfl) rfl rfl ?_
  refine oM rfl rfl ?_
  refine oQ (Q_rem rfl rfl (by omega)) rfl rfl ?_
  refine oQ (Q_bin rfl rfl rfl) rfl rfl ?_
  refine oA rfl rfl ?_
  refine oN ?_
  refine CW_ret ?_
  all_goals (
   subst hz11 hz16 hz22
   refine exitQ (.inr rfl) 0 (.cons (.tmp rfl rfl) .nil) ?_ rfl vHn rfl rfl
   simp only [resV, onB, dotV, dotT, V.bool.injEq]
   rw [Bool.eq_iff_iff]
   simp only [beq_iff_eq, tmod_zero]
   simp)
theorem l01On_con (p : Int) (a l : List Int) (hp : primeB p = true) (ha : a.length = 3) (hl : l.length = 3) (h1 : sm 13 a) (h2 : sm 13 l) : ConQ Tryd.prog [] 116 [.int p, .arr a, .arr l] [] (.bool (onB p a l)) := by
  match a, ha, l, hl with
  | [a, b, c], _, [x, y, z], _ => exact l01On_con3 p a b c x y z hp h1 h2
theorem l01PointsOn_con (p : Int) (l : List Int) (hp : primeB p = true) (hll : l.length = 3) (hls : sm 13 l) : Con Tryd.prog [] 91 [.int p, .arr l] [] (ownR 3 35 [] 0 ((allPts p).filter fun m => onB p m l)) := by
  have hb := prime_bd hp
  have hal := allPts_len hp
  have h3 : ∀ x ∈ (allPts p), x.length = 3 := fun x hx => allPts_three hx
  have hf3 := flat3 h3

  refine conW tab_ok [(0, .int p), (1, .arr l)] 0 [] [] Tryd.func91 rfl rfl rfl rfl rfl rfl rfl rfl rfl ?_
  refine cR ?_
  refine oBox rfl rfl rfl rfl rfl rfl ?_
  refine oA rfl rfl ?_
  refine oN ?_
  refine cR ?_
  refine oM rfl rfl ?_
  refine oCall (l01Points_con p hp) [] 1 rfl rfl (Fits.mk' vHn rfl rfl (by first | (simp; done) | exact glOk rfl rfl rfl)) rfl rfl ?_
  rintro r H1 ⟨k0, sp0, hk0, hsp0, rfl, rfl⟩
  refine ⟨.slice 1 0 (allPts p).length k0, [(1, .ints 35 ((allPts p).flatten ++ sp0))], rfl, rfl, rfl, ?_⟩
  refine oBsl rfl rfl rfl rfl (.inr ⟨rfl, rfl, by decide⟩) rfl rfl rfl rfl rfl rfl ?_
  iterate 2 refine oA rfl rfl ?_
  refine oN ?_
  refine CW_seq ?_
  refine cR ?_
  refine oA rfl rfl ?_
  refine oN ?_
  refine CW_block ?_
  refine CW_loop (ι := Nat × Nat × List Int) (fun x => x.1 ≤ (allPts p).length ∧ (((allPts p).take x.1).filter fun m => onB p m l).length ≤ x.2.1 ∧ x.2.1 * 3 ≤ (((allPts p).take x.1).filter fun m => onB p m l).length * 3 + x.2.2.length) (fun x => ⟨[(0, .int p), (3, .ptr 0 0), (5, .slice 1 0 (allPts p).length k0), (6, .slice 2 0 (((allPts p).take x.1).filter fun m => onB p m l).length x.2.1), (7, .int x.1)], [(0, .ints 32 l), (1, .ints 35 ((allPts p).flatten ++ sp0)), (2, .ints 35 ((((allPts p).take x.1).filter fun m => onB p m l).flatten ++ x.2.2))], 3⟩) (fun x => (allPts p).length - x.1) (0, 0, []) ?_ ?_ ?_
  · exact ⟨Nat.zero_le _, Nat.le_refl _, Nat.le_refl _⟩
  · refine View.mk' [] rfl rfl rfl ?_ ?_
    repeat' first | exact vFn | refine vFc rfl ?_ | exact vHn | refine vHc rfl ?_ | refine vFc (congrArg (fun z => some (V.int z)) ?_) ?_ | refine vHc (congrArg (fun z => some (Blk.ints _ z)) ?_) ?_ | refine vFc (congrArg (fun z => some (V.bool z)) ?_) ?_ | refine vFs rfl rfl ?_ ?_
  rintro ⟨i, k, sp⟩ ⟨hi, hk, hsp⟩
  dsimp only at hi hk hsp ⊢
  have hfn := filter_len (g := fun m => onB p m l) i hi
  have hlen := flat3 (filter_three (g := fun m => onB p m l) h3 i)
  have hmem := fun h : i < (allPts p).length => getD_mem h
  have h3i := fun h : i < (allPts p).length => h3 _ (getD_mem h)
  refine CW_seq ?_
  refine cR ?_
  iterate 2 refine oM rfl rfl ?_
  first | refine oQ (Q_len rfl rfl rfl rfl) rfl rfl ?_ | refine oQ (Q_len0 rfl rfl rfl rfl) rfl rfl ?_
  refine oQ (Q_bin rfl rfl rfl) rfl rfl ?_
  refine oN ?_
  first | refine cT rfl ?_ | refine cF rfl ?_ | refine CW_cond rfl (fun hc => ?_) (fun hc => ?_)
  all_goals try simp only [s1, s2, s3, s4, s5, s6, s7, s8, s9, s10, s11, s12] at hc
  all_goals first
    | (
     refine CW_skip ?_)
    | (
     refine CW_exit ?_)
  all_goals first
    | with_reducible refine tR ?_
    | with_reducible refine tE ?_
    | (
     with_reducible refine tN ?_
     refine CW_seq ?_
     refine CW_block ?_
     refine CW_seq ?_
     refine CW_draw lateOk (by decide +kernel) ?_
     iterate 3 refine qM rfl rfl ?_
     (have h3i := h3i (by omega)); (have hmem := hmem (by omega)); refine qQ (Q_ixs0z 3 rfl rfl rfl rfl rfl rfl (by omega)) rfl rfl ?_
     refine qQ (Q_lda (n := 3) rfl rfl rfl rfl rfl (by rw [List.length_append, hf3]; omega)) rfl rfl ?_; rw [flat_get h3 (show i < (allPts p).length by omega)]
     refine qQ (Q_ldw rfl rfl rfl rfl hll) rfl rfl ?_
     refine qQ (Q_call0 (l01On_con p _ l hp h3i hll (allPts_sm hp hmem) hls) rfl rfl rfl) rfl rfl ?_
     refine QW_nil ?_
     all_goals with_reducible refine tN ?_
     all_goals (
      first | refine cT rfl ?_ | refine cF rfl ?_ | refine CW_cond rfl (fun hc => ?_) (fun hc => ?_)
      all_goals try simp only [s1, s2, s3, s4, s5, s6, s7, s8, s9, s10, s11, s12] at hc
      all_goals first
        | (
         refine CW_skip ?_)
        | (
         refine CW_region ?_
         iterate 3 refine oM rfl rfl ?_
         first | refine oQ (Q_ixs0z 3 rfl rfl rfl rfl rfl rfl (by first | omega | (dsimp only; omega) | (simp; omega) | (simp; done))) rfl rfl ?_ | refine oQ (Q_ixsz 3 rfl rfl rfl rfl rfl rfl (by first | omega | (dsimp only; omega) | (simp; omega) | (simp; done))) rfl rfl ?_
         refine oQ (Q_lda (n := 3) rfl rfl rfl rfl rfl (by rw [List.length_append, hf3]; omega)) rfl rfl ?_; rw [flat_get h3 (show i < (allPts p).length by omega)]
         refine oBsl1 h3i rfl rfl rfl rfl rfl rfl rfl rfl rfl rfl ?_
         refine oApp (sz := 3) (by_ := 24) (xl := (allPts p).getD i []) rfl rfl rfl rfl rfl rfl ⟨by decide, rfl, .inr rfl⟩ rfl rfl rfl rfl rfl rfl hlen (by rw [h3i]) (by omega) (by omega) (by omega) (by omega) rfl rfl (fun k2 sp2 h1 h2 => ?_)
         refine oA rfl rfl ?_
         refine OW_nil ?_))
     all_goals first | with_reducible refine bN ?_ | with_reducible refine bE ?_ | with_reducible refine bR ?_ | refine bX rfl ?_
     all_goals with_reducible refine tN ?_
     all_goals (
      refine CW_region ?_
      refine oM rfl rfl ?_
      first | refine oQ (Q_binu rfl rfl rfl (by omega)) rfl rfl ?_ | refine oQ (Q_bin rfl rfl rfl) rfl rfl ?_
      refine oA rfl rfl ?_
      refine OW_nil ?_))
  all_goals first
    | with_reducible refine tR ?_
    | with_reducible refine tE ?_
    | (
     with_reducible refine tN ?_
     first
       | (
        refine ⟨(i + 1, k2, sp2), ?_, ?_, View.mk' [(2, 4)] rfl rfl rfl ?_ ?_⟩
        · dsimp only
          first
            | (rw [filter_snoc (by omega) (by first | exact hc | exact beq_iff_eq.2 hc), List.length_append, List.length_singleton]; exact ⟨by omega, h1, h2⟩)
            | (rw [filter_skip (by omega) (by first | exact hc | exact beq_eq_false_iff_ne.2 hc)]; exact ⟨by omega, hk, hsp⟩)
        · omega
        all_goals (repeat' first | exact vFn | refine vFc rfl ?_ | exact vHn | refine vHc rfl ?_ | refine vFc (congrArg (fun z => some (V.int z)) ?_) ?_ | refine vHc (congrArg (fun z => some (Blk.ints _ z)) ?_) ?_ | refine vFc (congrArg (fun z => some (V.bool z)) ?_) ?_ | refine vFs rfl rfl ?_ ?_)
        all_goals dsimp only
        all_goals first
          | (rw [filter_snoc (by omega) (by first | exact hc | exact beq_iff_eq.2 hc)]; simp; done)
          | (rw [filter_skip (by omega) (by first | exact hc | exact beq_eq_false_iff_ne.2 hc)]; done))
       | (
        refine ⟨(i + 1, k, sp), ?_, ?_, View.mk' [] rfl rfl rfl ?_ ?_⟩
        · dsimp only
          first
            | (rw [filter_snoc (by omega) (by first | exact hc | exact beq_iff_eq.2 hc), List.length_append, List.length_singleton]; exact ⟨by omega, h1, h2⟩)
            | (rw [filter_skip (by omega) (by first | exact hc | exact beq_eq_false_iff_ne.2 hc)]; exact ⟨by omega, hk, hsp⟩)
        · omega
        all_goals (repeat' first | exact vFn | refine vFc rfl ?_ | exact vHn | refine vHc rfl ?_ | refine vFc (congrArg (fun z => some (V.int z)) ?_) ?_ | refine vHc (congrArg (fun z => some (Blk.ints _ z)) ?_) ?_ | refine vFc (congrArg (fun z => some (V.bool z)) ?_) ?_ | refine vFs rfl rfl ?_ ?_)
        all_goals dsimp only
        all_goals first
          | (rw [filter_snoc (by omega) (by first | exact hc | exact beq_iff_eq.2 hc)]; simp; done)
          | (rw [filter_skip (by omega) (by first | exact hc | exact beq_eq_false_iff_ne.2 hc)]; done)))
  all_goals first | with_reducible refine bN ?_ | with_reducible refine bE ?_ | with_reducible refine bR ?_ | refine bX rfl ?_
  all_goals with_reducible refine tN ?_
  all_goals (
   refine cR ?_
   refine oM rfl rfl ?_
   refine oA rfl rfl ?_
   refine oN ?_
   refine CW_ret ?_)
  all_goals (
   have e : i = (allPts p).length := by omega
   subst e
   rw [List.take_length] at hk hsp
   exact exitH (r0 := .slice 0 0 ((allPts p).filter fun m => onB p m l).length k) (H0 := [(0, .ints 35 (((allPts p).filter fun m => onB p m l).flatten ++ sp))]) (.inr rfl) [(0, 2)] 1 (.cons (.tmp rfl rfl) .nil) (by simp only [List.take_length]; rfl) rfl rfl (vHc (by simp only [List.take_length]; rfl) vHn) rfl rfl ⟨k, sp, hk, hsp, rfl, rfl⟩)
end Go.Proofs.YtlhlnaehfjojiaaDoor
