/- LinesOfConic of both sides. Printed by gen_q8.py. -/
import Derived.Test.YtgfncdejnjikpaaQ4
namespace Go.Proofs.Ytgfncdejnjikpaa
attribute [local irreducible] CW OW QW QOp Con thenP inBlockP AW QX
set_option maxRecDepth 10000
set_option linter.unusedSimpArgs false
set_option linter.unusedVariables false
/-! ### a line has p + 1 points -/
abbrev N3 := Nat × Nat × Nat
def toL (x : N3) : List Int := [(x.1 : Int), (x.2.1 : Int), (x.2.2 : Int)]
def allN (n : Nat) : List N3 := [(0, 0, 1)] ++ (List.range n).map (fun z => (0, 1, z)) ++ (List.range n).flatMap fun y => (List.range n).map fun z => (1, y, z)
def onN (n : Nat) (x m : N3) : Bool := (x.1 * m.1 + x.2.1 * m.2.1 + x.2.2 * m.2.2) % n == 0
theorem allN_eq (n : Nat) : allPts (n : Int) = (allN n).map toL := by
  simp [allPts, allN, row1, rows2, row2, toL, List.map_flatMap, Function.comp_def]
theorem onN_eq (n : Nat) (x m : N3) : onB (n : Int) (toL x) (toL m) = onN n x m := by
  have e : dotV (toL x) (toL m) = ((x.1 * m.1 + x.2.1 * m.2.1 + x.2.2 * m.2.2 : Nat) : Int) := by
    simp only [dotV, dotT, toL, List.getD_cons_zero, List.getD_cons_succ, Int.zero_add, Int.natCast_add, Int.natCast_mul]
  rw [onB, onN, e, ← Int.natCast_emod, Bool.eq_iff_iff, beq_iff_eq, beq_iff_eq]
  omega
def lineN (n : Nat) : Bool := (allN n).all fun m => ((allN n).filter fun x => onN n x m).length == n + 1
theorem lineN_3 : lineN 3 = true := by decide +kernel
theorem lineN_5 : lineN 5 = true := by decide +kernel
theorem lineN_7 : lineN 7 = true := by decide +kernel
theorem lineN_11 : lineN 11 = true := by decide +kernel
theorem lineN_13 : lineN 13 = true := by decide +kernel
theorem line_count {p : Int} (hp : primeB p = true) {m : List Int} (hm : m ∈ allPts p) : (((allPts p).filter fun x => onB p x m).length : Int) = p + 1 := by
  obtain ⟨n, rfl, hn⟩ : ∃ n : Nat, p = (n : Int) ∧ lineN n = true := by
    rcases prime_cases hp with h | h | h | h | h
    · exact ⟨3, h, lineN_3⟩
    · exact ⟨5, h, lineN_5⟩
    · exact ⟨7, h, lineN_7⟩
    · exact ⟨11, h, lineN_11⟩
    · exact ⟨13, h, lineN_13⟩
  rw [allN_eq] at hm ⊢
  obtain ⟨y, hy, rfl⟩ := List.mem_map.1 hm
  rw [List.filter_map, List.length_map]
  have h1 := List.all_eq_true.1 hn y hy
  have e : ((fun x => onB (n : Int) x (toL y)) ∘ toL) = fun x => onN n x y := funext fun x => onN_eq n x y
  rw [e]
  have := eq_of_beq h1
  omega
def onAll (p : Int) (c m : List Int) : Bool := ((allPts p).filter fun x => onB p x m).all fun x => conV p c x == 0
theorem lines_same {p : Int} (hp : primeB p = true) (c : List Int) : ((allPts p).filter fun m => (((allPts p).filter fun x => (conV p c x == 0) && onB p x m).length : Int) == p + 1) = (allPts p).filter fun m => onAll p c m := by
  apply List.filter_congr
  intro m hm
  have h1 := line_count hp hm
  have e : ((allPts p).filter fun x => (conV p c x == 0) && onB p x m) = ((allPts p).filter fun x => onB p x m).filter fun x => conV p c x == 0 := by rw [List.filter_filter]
  rw [e, ← h1, Bool.eq_iff_iff, beq_iff_eq, onAll, List.all_eq_true]
  generalize (allPts p).filter (fun x => onB p x m) = L
  constructor
  · intro h
    exact List.length_filter_eq_length_iff.1 (by omega)
  · intro h
    have := List.length_filter_eq_length_iff.2 h
    omega
theorem all_next {L : List (List Int)} {g : List Int → Bool} {k : Nat} (hk : k < L.length) (h : (L.take k).all g = true) : (L.take (k + 1)).all g = g (L.getD k []) := by
  rw [takeL_snoc hk, List.all_append, h]; simp
theorem all_stop {L : List (List Int)} {g : List Int → Bool} {k : Nat} (h : (L.take k).all g = false) : L.all g = false := by
  rw [List.all_eq_false] at h ⊢
  obtain ⟨x, hx, hg⟩ := h
  exact ⟨x, List.mem_of_mem_take hx, hg⟩

theorem lines1_con (c : List Int) (p : Int) (hp : primeB p = true) (hcl : c.length = 6) (h1 : sm 13 c) (m : List Int) (hm : m ∈ allPts p) : ConQ Try.prog [] 93 [.arr m, .ptr 1000 0, .ptr 1001 0] [(1000, .ints 56 c), (1001, .ints 2 [p])] (.bool ((((allPts p).filter fun x => (conV p c x == 0) && onB p x m).length : Int) == p + 1)) := by
  have h3 := allPts_three hm
  have hs := allPts_sm hp hm
  have hpb := prime_bd hp
  refine conW tab_ok [(0, .arr m), (1, .ptr 1000 0), (2, .ptr 1001 0)] 0 [1000, 1001] [1000, 1001] Try.func93 rfl rfl rfl rfl rfl rfl rfl rfl rfl ?_
  refine cR ?_
  refine oBox rfl rfl rfl rfl rfl rfl ?_
  refine oA rfl rfl ?_
  refine oN ?_
  refine CW_seq ?_
  refine CW_any (fun _ => false) 9 rfl lateOk (by decide +kernel) (fun hst => ?_)
  refine aQ 0 hst rfl rfl (by decide +kernel) (QX_of (Q_ldw rfl rfl rfl rfl hcl) NE_load) rfl rfl ?_
  first | refine aQ 1 hst rfl rfl (by decide +kernel) (QX_of (Q_ldc rfl rfl rfl rfl rfl) NE_load) rfl rfl ?_ | refine aQ 1 hst rfl rfl (by decide +kernel) (QX_of (Ld rfl rfl rfl rfl) NE_load) rfl rfl ?_
  refine aQ 2 hst rfl rfl (by decide +kernel) (QX_of (Q_ldw rfl rfl rfl rfl h3) NE_load) rfl rfl ?_
  first | refine aQ 5 hst rfl rfl (by decide +kernel) (QX_of (Q_ldc rfl rfl rfl rfl rfl) NE_load) rfl rfl ?_ | refine aQ 5 hst rfl rfl (by decide +kernel) (QX_of (Ld rfl rfl rfl rfl) NE_load) rfl rfl ?_
  first | refine aQ 6 hst rfl rfl (by decide +kernel) (QX_of (Q_binu rfl rfl rfl (by omega)) NE_bin) rfl rfl ?_ | refine aQ 6 hst rfl rfl (by decide +kernel) (QX_of (Q_bin rfl rfl rfl) NE_bin) rfl rfl ?_
  refine AW_one (i := 3) (by decide +kernel) ?_
  (have hb := prime_bd hp)
  refine gCall rfl rfl (cmeets_con c p m hp hcl h1 h3 hs) [] 1 rfl rfl (Fits.mk' vHn rfl rfl (by simp)) rfl rfl rfl ?_
  rintro r H1 ⟨k, sp, hk, hsp, rfl, rfl⟩
  refine ⟨.slice 1 0 ((allPts p).filter fun x => (conV p c x == 0) && onB p x m).length k, [(1, .ints 64 (((allPts p).filter fun x => (conV p c x == 0) && onB p x m).flatten ++ sp))], rfl, keep_pre _ _, rfl, rfl, ?_⟩
  first | refine aQ 4 hst rfl rfl (by decide +kernel) (QX_of (Q_len rfl rfl rfl rfl) NE_len) rfl rfl ?_ | refine aQ 4 hst rfl rfl (by decide +kernel) (QX_of (Q_len0 rfl rfl rfl rfl) NE_len) rfl rfl ?_
  refine aQ 7 hst rfl rfl (by decide +kernel) (QX_of (Q_bin rfl rfl rfl) NE_bin) rfl rfl ?_
  refine aQ 8 hst rfl rfl (by decide +kernel) (QX_of (Q_assign rfl rfl) NE_assign) rfl rfl ?_
  refine AW_done (by decide +kernel) ?_
  all_goals with_reducible refine tN ?_
  all_goals (
   refine CW_ret ?_)
  all_goals (
   ((refine exitQ (.inr rfl) 0 (.cons (.tmp rfl rfl) .nil) ?_ rfl (vHc rfl (vHc rfl vHn)) rfl rfl); rfl))
theorem impl_LinesOfConic_con (p : Int) (c : List Int) (hc6 : c.length = 6) : Con Try.prog [] 47 [.int p, .arr c] [] (listR 3 61 [] 0 (codeB p (pointB p c)) ((allPts p).filter fun m => onAll p c m)) := by
  refine conW tab_ok [(0, .int p), (1, .arr c)] 0 [] [] Try.func47 rfl rfl rfl rfl rfl rfl rfl rfl rfl ?_
  refine cR ?_
  iterate 2 refine oBox rfl rfl rfl rfl rfl rfl ?_
  iterate 2 refine oA rfl rfl ?_
  refine oN ?_
  refine CW_seq ?_
  refine cR ?_
  first | refine oQ (Q_ldc rfl rfl rfl rfl rfl) rfl rfl ?_ | refine oQ (Ld rfl rfl rfl rfl) rfl rfl ?_
  refine oQ (Q_ldw rfl rfl rfl rfl hc6) rfl rfl ?_
  refine oBsl1 hc6 rfl rfl rfl rfl rfl rfl rfl rfl rfl rfl ?_
  refine oQ (Q_call (conicsCode_one p true c hc6) [(0, 2)] rfl rfl (Fits.mk' (vHc rfl vHn) rfl rfl (by simp)) rfl rfl) rfl rfl ?_
  refine oA rfl rfl ?_
  refine oN ?_
  refine cR ?_
  refine oM rfl rfl ?_
  refine oQ (Q_bin rfl rfl rfl) rfl rfl ?_
  refine oN ?_
  first | refine cT rfl ?_ | refine cF rfl ?_ | refine CW_cond rfl (fun hc => ?_) (fun hc => ?_)
  all_goals try simp only [s1, s2, s3, s4, s5, s6, s7, s8, s9, s10, s11, s12] at hc
  all_goals first
    | (
     refine CW_skip ?_)
    | (
     refine cR ?_
     refine oM rfl rfl ?_
     iterate 2 refine oA rfl rfl ?_
     refine oN ?_
     refine CW_ret ?_)
  all_goals first
    | with_reducible refine tR ?_
    | with_reducible refine tE ?_
    | (
     with_reducible refine tN ?_
     refine cR ?_
     first | refine oQ (Q_ldc rfl rfl rfl rfl rfl) rfl rfl ?_ | refine oQ (Ld rfl rfl rfl rfl) rfl rfl ?_
     refine oQ (Q_makeFunc rfl rfl) rfl rfl ?_
     (have hc0 : codeB p (pointB p c) = 0 := hc)
     (have hcc := codeB_zero.1 hc0)
     (have hlt := linesThat_2 93 56 c 2 [p] (fun m => (((allPts p).filter fun x => (conV p c x == 0) && onB p x m).length : Int) == p + 1) p hcc.1 (fun m hm => lines1_con c p hcc.1 hc6 (sm_point hcc.2) m hm))
     rw [lines_same hcc.1] at hlt
     refine oCall (hlt) [(1000, 1), (1001, 0)] 1 rfl rfl (Fits.mk' (vHc rfl (vHc rfl vHn)) rfl rfl (by simp)) rfl rfl ?_
     rintro r H1 ⟨k, sp, hk, hsp, rfl, rfl⟩
     refine ⟨.slice 3 0 ((allPts p).filter fun m => onAll p c m).length k, [(1, .ints 56 c), (0, .ints 2 [p]), (3, .ints 61 (((allPts p).filter fun m => onAll p c m).flatten ++ sp))], rfl, rfl, rfl, ?_⟩
     iterate 2 refine oA rfl rfl ?_
     refine oN ?_
     refine CW_ret ?_)
  all_goals (
   first
     | exact exitH (r0 := .tuple [.nilsl, .int (codeB p (pointB p c))]) (H0 := []) (.inr rfl) [] 0 (.cons (.tmp rfl rfl) (.cons (.tmp rfl rfl) .nil)) rfl rfl rfl vHn rfl rfl (listR_no hc rfl rfl)
     | exact exitH (r0 := .tuple [.slice 0 0 ((allPts p).filter fun m => onAll p c m).length k, .int 0]) (H0 := [(0, .ints 61 (((allPts p).filter fun m => onAll p c m).flatten ++ sp))]) (.inr rfl) [(0, 3)] 1 (.cons (.tmp rfl rfl) (.cons (.tmp rfl rfl) .nil)) rfl rfl rfl (vHc rfl vHn) rfl rfl (listR_ok hc0 hk hsp rfl rfl))
theorem spec_LinesOfConic_con (p : Int) (c : List Int) (hc6 : c.length = 6) : Con Try.prog [] 46 [.int p, .arr c] [] (listR 3 61 [] 0 (codeB p (pointB p c)) ((allPts p).filter fun m => onAll p c m)) := by
  refine conW tab_ok [(0, .int p), (1, .arr c)] 0 [] [] Try.func46 rfl rfl rfl rfl rfl rfl rfl rfl rfl ?_
  refine cR ?_
  refine oBox rfl rfl rfl rfl rfl rfl ?_
  iterate 2 refine oA rfl rfl ?_
  refine oN ?_
  refine CW_seq ?_
  refine cR ?_
  refine oM rfl rfl ?_
  refine oQ (Q_ldw rfl rfl rfl rfl hc6) rfl rfl ?_
  refine oQ (Q_call0 (l03Code_nil p c hc6) rfl rfl rfl) rfl rfl ?_
  refine oA rfl rfl ?_
  refine oN ?_
  refine cR ?_
  refine oM rfl rfl ?_
  refine oQ (Q_bin rfl rfl rfl) rfl rfl ?_
  refine oN ?_
  first | refine cT rfl ?_ | refine cF rfl ?_ | refine CW_cond rfl (fun hc => ?_) (fun hc => ?_)
  all_goals try simp only [s1, s2, s3, s4, s5, s6, s7, s8, s9, s10, s11, s12] at hc
  all_goals first
    | (
     refine CW_skip ?_)
    | (
     refine cR ?_
     refine oM rfl rfl ?_
     iterate 2 refine oA rfl rfl ?_
     refine oN ?_
     refine CW_ret ?_)
  all_goals first
    | with_reducible refine tR ?_
    | with_reducible refine tE ?_
    | (
     with_reducible refine tN ?_
     refine cR ?_
     refine oM rfl rfl ?_
     (have hc0 : codeB p (pointB p c) = 0 := hc)
     (have hcc := codeB_zero.1 hc0)
     (have hb := prime_bd hcc.1)
     (have hal := allPts_len hcc.1)
     (have h3 : ∀ x ∈ allPts p, x.length = 3 := fun x hx => allPts_three hx)
     (have hf3 := flat3 h3)
     refine oCall (l01Points_con p hcc.1) [] 1 rfl rfl (Fits.mk' vHn rfl rfl (by simp)) rfl rfl ?_
     rintro r H1 ⟨k0, sp0, hk0, hsp0, rfl, rfl⟩
     refine ⟨.slice 1 0 (allPts p).length k0, [(1, .ints 64 ((allPts p).flatten ++ sp0))], rfl, rfl, rfl, ?_⟩
     refine oBsl rfl rfl rfl rfl (.inr ⟨rfl, rfl, by decide⟩) rfl rfl rfl rfl rfl rfl ?_
     iterate 2 refine oA rfl rfl ?_
     refine oN ?_
     refine CW_seq ?_
     refine cR ?_
     refine oA rfl rfl ?_
     refine oN ?_
     refine CW_block ?_
     refine CW_loop (ι := Nat × Nat × List Int) (fun x => x.1 ≤ (allPts p).length ∧ (((allPts p).take x.1).filter fun m => onAll p c m).length ≤ x.2.1 ∧ x.2.1 * 3 ≤ (((allPts p).take x.1).filter fun m => onAll p c m).length * 3 + x.2.2.length) (fun x => ⟨[(0, .int p), (3, .ptr 0 0), (7, .slice 1 0 (allPts p).length k0), (8, .slice 2 0 (((allPts p).take x.1).filter fun m => onAll p c m).length x.2.1), (9, .int x.1)], [(0, .ints 56 c), (1, .ints 64 ((allPts p).flatten ++ sp0)), (2, .ints 61 ((((allPts p).take x.1).filter fun m => onAll p c m).flatten ++ x.2.2))], 3⟩) (fun x => (allPts p).length - x.1) (0, 0, []) ?_ ?_ ?_
     · exact ⟨Nat.zero_le _, Nat.le_refl _, Nat.le_refl _⟩
     · refine View.mk' [] rfl rfl rfl ?_ ?_
       repeat' first | exact vFn | refine vFc rfl ?_ | exact vHn | refine vHc rfl ?_ | refine vFc (congrArg (fun z => some (V.int z)) ?_) ?_ | refine vHc (congrArg (fun z => some (Blk.ints _ z)) ?_) ?_ | refine vFc (congrArg (fun z => some (V.bool z)) ?_) ?_ | refine vFs rfl rfl ?_ ?_
     rintro ⟨i, k, sp⟩ ⟨hi, hk, hsp⟩
     dsimp only at hi hk hsp ⊢
     have hfn := filter_len (g := fun m => onAll p c m) i hi
     have hlen := flat3 (filter_three (g := fun m => onAll p c m) h3 i)
     have h3i := fun h : i < (allPts p).length => h3 _ (getD_mem h)
     have hmi := fun h : i < (allPts p).length => getD_mem (L := allPts p) h
     refine CW_seq ?_
     refine cR ?_
     iterate 2 refine oM rfl rfl ?_
     first | refine oQ (Q_len rfl rfl rfl rfl) rfl rfl ?_ | refine oQ (Q_len0 rfl rfl rfl rfl) rfl rfl ?_
     refine oQ (Q_bin rfl rfl rfl) rfl rfl ?_
     refine oN ?_
     first | refine cT rfl ?_ | refine cF rfl ?_ | refine CW_cond rfl (fun hc => ?_) (fun hc => ?_)
     all_goals try simp only [s1, s2, s3, s4, s5, s6, s7, s8, s9, s10, s11, s12] at hc
     all_goals first
       | (
        refine CW_skip ?_)
       | (
        refine CW_exit ?_)
     all_goals first
       | with_reducible refine tR ?_
       | with_reducible refine tE ?_
       | (
        with_reducible refine tN ?_
        refine CW_seq ?_
        refine CW_block ?_
        refine cR ?_
        iterate 3 refine oM rfl rfl ?_
        (have hin : i < (allPts p).length := by omega); (have h3i := h3i hin); (have hmi := hmi hin); refine oQ (Q_ixs0z 3 rfl rfl rfl rfl rfl rfl (by omega)) rfl rfl ?_
        refine oQ (Q_lda (n := 3) rfl rfl rfl rfl rfl (by rw [List.length_append, hf3]; omega)) rfl rfl ?_; rw [flat_get h3 hin]
        (have hlc := line_count hcc.1 hmi)
        (have hon : onAll p c ((allPts p).getD i []) = ((allPts p).filter fun x => onB p x ((allPts p).getD i [])).all fun x => conV p c x == 0 := rfl)
        (have hmem : ∀ x ∈ (allPts p).filter (fun x => onB p x ((allPts p).getD i [])), x ∈ allPts p := fun x hx => (List.mem_filter.1 hx).1)
        refine oCall (l01PointsOn_con p ((allPts p).getD i []) hcc.1 h3i (allPts_sm hcc.1 hmi)) [] 1 rfl rfl (Fits.mk' vHn rfl rfl (by simp)) rfl rfl ?_
        rintro r H1 ⟨k1, sp1, hk1, hsp1, rfl, rfl⟩
        generalize (allPts p).filter (fun x => onB p x ((allPts p).getD i [])) = LL at *
        (have g3 : ∀ x ∈ LL, x.length = 3 := fun x hx => h3 x (hmem x hx))
        (have gf3 := flat3 g3)
        refine ⟨.slice 3 0 LL.length k1, [(3, .ints 64 (LL.flatten ++ sp1))], rfl, rfl, rfl, ?_⟩
        iterate 2 refine oA rfl rfl ?_
        refine oN ?_
        refine CW_seq ?_
        refine cR ?_
        refine oA rfl rfl ?_
        refine oN ?_
        refine CW_block ?_
        refine CW_loop (ι := Nat) (fun q => q ≤ LL.length) (fun q => ⟨[(0, .int p), (3, .ptr 0 0), (7, .slice 1 0 (allPts p).length k0), (8, .slice 2 0 (((allPts p).take i).filter fun m => onAll p c m).length k), (9, .int i), (10, .slice 3 0 LL.length k1), (11, .bool ((LL.take q).all fun x => conV p c x == 0)), (12, .int q)], [(0, .ints 56 c), (1, .ints 64 ((allPts p).flatten ++ sp0)), (2, .ints 61 ((((allPts p).take i).filter fun m => onAll p c m).flatten ++ sp)), (3, .ints 64 (LL.flatten ++ sp1))], 4⟩) (fun q => LL.length - q) 0 ?_ ?_ ?_
        · first | trivial | omega | (simp; done) | (simp; omega)
        · refine View.mk' [] rfl rfl rfl ?_ ?_
          repeat' first | exact vFn | refine vFc rfl ?_ | exact vHn | refine vHc rfl ?_ | refine vFc (congrArg (fun z => some (V.int z)) ?_) ?_ | refine vHc (congrArg (fun z => some (Blk.ints _ z)) ?_) ?_ | refine vFc (congrArg (fun z => some (V.bool z)) ?_) ?_ | refine vFs rfl rfl ?_ ?_
        intro q hq
        have g3i := fun h : q < LL.length => g3 _ (getD_mem h)
        have gmi := fun h : q < LL.length => hmem _ (getD_mem h)
        refine CW_seq ?_
        refine cR ?_
        iterate 2 refine oM rfl rfl ?_
        first | refine oQ (Q_len rfl rfl rfl rfl) rfl rfl ?_ | refine oQ (Q_len0 rfl rfl rfl rfl) rfl rfl ?_
        refine oQ (Q_bin rfl rfl rfl) rfl rfl ?_
        refine oM rfl rfl ?_
        all_goals first | refine oT rfl rfl ?_ | refine o1 rfl rfl rfl ?_ | refine o0 rfl rfl rfl ?_ | refine ogP1 rfl rfl rfl (fun hg => ?_) (fun hg => ?_) | refine ogP0 rfl rfl rfl (fun hg => ?_) (fun hg => ?_)
        all_goals try simp only [s1, s2, s3, s4, s5, s6, s7, s8, s9, s10, s11, s12] at hg
        all_goals first | (refine oM rfl rfl ?_) | skip
        all_goals first | refine oQ (Q_pick_t rfl (by with_reducible rfl) rfl rfl) rfl rfl ?_ | refine oQ (Q_pick_f rfl (by with_reducible rfl) rfl rfl) rfl rfl ?_
        all_goals refine oN ?_
        all_goals (
         first | refine cT rfl ?_ | refine cF rfl ?_ | refine CW_cond rfl (fun hc => ?_) (fun hc => ?_)
         all_goals try simp only [s1, s2, s3, s4, s5, s6, s7, s8, s9, s10, s11, s12] at hc
         all_goals first
           | (
            refine CW_skip ?_)
           | (
            refine CW_exit ?_))
        all_goals first
          | with_reducible refine tR ?_
          | with_reducible refine tE ?_
          | (
           with_reducible refine tN ?_
           refine CW_seq ?_
           refine CW_block ?_
           refine CW_draw lateOk (by decide +kernel) ?_
           refine qM rfl rfl ?_
           refine qQ (Q_ldw rfl rfl rfl rfl hc6) rfl rfl ?_
           iterate 2 refine qM rfl rfl ?_
           (have g3i := g3i (by omega)); (have gmi := gmi (by omega)); refine qQ (Q_ixs0z 3 rfl rfl rfl rfl rfl rfl (by omega)) rfl rfl ?_
           refine qQ (Q_lda (n := 3) rfl rfl rfl rfl rfl (by rw [List.length_append, gf3]; omega)) rfl rfl ?_; rw [flat_get g3 (show q < LL.length by omega)]
           refine qQ (Q_call0 (l03At_con p c _ hcc.1 hc6 g3i (pointB_mod hcc.2) (allPts_mod hcc.1 gmi)) rfl rfl rfl) rfl rfl ?_
           refine qQ (Q_bin rfl rfl rfl) rfl rfl ?_
           refine qA rfl rfl ?_
           refine QW_nil ?_
           all_goals first | with_reducible refine bN ?_ | with_reducible refine bE ?_ | with_reducible refine bR ?_ | refine bX rfl ?_
           all_goals with_reducible refine tN ?_
           all_goals (
            refine CW_region ?_
            refine oM rfl rfl ?_
            first | refine oQ (Q_binu rfl rfl rfl (by omega)) rfl rfl ?_ | refine oQ (Q_bin rfl rfl rfl) rfl rfl ?_
            refine oA rfl rfl ?_
            refine OW_nil ?_))
        all_goals first
          | with_reducible refine tR ?_
          | with_reducible refine tE ?_
          | (
           with_reducible refine tN ?_
           refine ⟨q + 1, ?_, ?_, View.mk' [] rfl rfl rfl ?_ ?_⟩
           · omega
           · omega
           all_goals (repeat' first | exact vFn | refine vFc rfl ?_ | exact vHn | refine vHc rfl ?_ | refine vFc (congrArg (fun z => some (V.int z)) ?_) ?_ | refine vHc (congrArg (fun z => some (Blk.ints _ z)) ?_) ?_ | refine vFc (congrArg (fun z => some (V.bool z)) ?_) ?_ | refine vFs rfl rfl ?_ ?_)
           all_goals exact (all_next (L := LL) (k := q) (by omega) hc).symm)
        all_goals first | with_reducible refine bN ?_ | with_reducible refine bE ?_ | with_reducible refine bR ?_ | refine bX rfl ?_
        all_goals with_reducible refine tN ?_
        all_goals (
         refine cR ?_
         refine oM rfl rfl ?_
         refine oN ?_
         first | refine cT rfl ?_ | refine cF rfl ?_ | refine CW_cond rfl (fun hc => ?_) (fun hc => ?_)
         all_goals try simp only [s1, s2, s3, s4, s5, s6, s7, s8, s9, s10, s11, s12] at hc
         all_goals first
           | (
            refine CW_skip ?_)
           | (
            refine CW_region ?_
            iterate 3 refine oM rfl rfl ?_
            refine oQ (Q_ixs0z 3 rfl rfl rfl rfl rfl rfl (by omega)) rfl rfl ?_
            refine oQ (Q_lda (n := 3) rfl rfl rfl rfl rfl (by rw [List.length_append, hf3]; omega)) rfl rfl ?_; rw [flat_get h3 hin]
            refine oBsl1 h3i rfl rfl rfl rfl rfl rfl rfl rfl rfl rfl ?_
            refine oApp (sz := 3) (by_ := 24) (xl := (allPts p).getD i []) rfl rfl rfl rfl rfl rfl ⟨by decide, rfl, .inr rfl⟩ rfl rfl rfl rfl rfl rfl hlen (by rw [h3i]) (by omega) (by omega) (by omega) (by omega) rfl rfl (fun k2 sp2 h1 h2 => ?_)
            refine oA rfl rfl ?_
            refine OW_nil ?_))
        all_goals first | with_reducible refine bN ?_ | with_reducible refine bE ?_ | with_reducible refine bR ?_ | refine bX rfl ?_
        all_goals with_reducible refine tN ?_
        all_goals (
         refine CW_region ?_
         refine oM rfl rfl ?_
         first | refine oQ (Q_binu rfl rfl rfl (by omega)) rfl rfl ?_ | refine oQ (Q_bin rfl rfl rfl) rfl rfl ?_
         refine oA rfl rfl ?_
         refine OW_nil ?_))
     all_goals first
       | with_reducible refine tR ?_
       | with_reducible refine tE ?_
       | (
        with_reducible refine tN ?_
        first
          | (
           refine ⟨(i + 1, k2, sp2), ?_, ?_, View.mk' [(2, 5)] rfl rfl rfl ?_ ?_⟩
           · dsimp only
             first
               | ((have hyes : onAll p c ((allPts p).getD i []) = true := (by rw [hon]; first | (rw [List.take_of_length_le (show LL.length ≤ q by omega)] at hc; exact hc) | (simp_all; done)))
                  rw [filter_snoc (by omega) hyes, List.length_append, List.length_singleton]; exact ⟨by omega, h1, h2⟩)
               | ((have hno : onAll p c ((allPts p).getD i []) = false := (by rw [hon]; exact all_stop (by first | exact hc | (simpa using hc))))
                  rw [filter_skip (by omega) hno]; exact ⟨by omega, hk, hsp⟩)
           · omega
           all_goals (repeat' first | exact vFn | refine vFc rfl ?_ | exact vHn | refine vHc rfl ?_ | refine vFc (congrArg (fun z => some (V.int z)) ?_) ?_ | refine vHc (congrArg (fun z => some (Blk.ints _ z)) ?_) ?_ | refine vFc (congrArg (fun z => some (V.bool z)) ?_) ?_ | refine vFs rfl rfl ?_ ?_)
           all_goals dsimp only
           all_goals first
             | ((have hyes : onAll p c ((allPts p).getD i []) = true := (by rw [hon]; first | (rw [List.take_of_length_le (show LL.length ≤ q by omega)] at hc; exact hc) | (simp_all; done)))
                rw [filter_snoc (by omega) hyes]; simp; done)
             | ((have hno : onAll p c ((allPts p).getD i []) = false := (by rw [hon]; exact all_stop (by first | exact hc | (simpa using hc))))
                rw [filter_skip (by omega) hno]))
          | (
           refine ⟨(i + 1, k, sp), ?_, ?_, View.mk' [] rfl rfl rfl ?_ ?_⟩
           · dsimp only
             first
               | ((have hyes : onAll p c ((allPts p).getD i []) = true := (by rw [hon]; first | (rw [List.take_of_length_le (show LL.length ≤ q by omega)] at hc; exact hc) | (simp_all; done)))
                  rw [filter_snoc (by omega) hyes, List.length_append, List.length_singleton]; exact ⟨by omega, h1, h2⟩)
               | ((have hno : onAll p c ((allPts p).getD i []) = false := (by rw [hon]; exact all_stop (by first | exact hc | (simpa using hc))))
                  rw [filter_skip (by omega) hno]; exact ⟨by omega, hk, hsp⟩)
           · omega
           all_goals (repeat' first | exact vFn | refine vFc rfl ?_ | exact vHn | refine vHc rfl ?_ | refine vFc (congrArg (fun z => some (V.int z)) ?_) ?_ | refine vHc (congrArg (fun z => some (Blk.ints _ z)) ?_) ?_ | refine vFc (congrArg (fun z => some (V.bool z)) ?_) ?_ | refine vFs rfl rfl ?_ ?_)
           all_goals dsimp only
           all_goals first
             | ((have hyes : onAll p c ((allPts p).getD i []) = true := (by rw [hon]; first | (rw [List.take_of_length_le (show LL.length ≤ q by omega)] at hc; exact hc) | (simp_all; done)))
                rw [filter_snoc (by omega) hyes]; simp; done)
             | ((have hno : onAll p c ((allPts p).getD i []) = false := (by rw [hon]; exact all_stop (by first | exact hc | (simpa using hc))))
                rw [filter_skip (by omega) hno])))
     all_goals first | with_reducible refine bN ?_ | with_reducible refine bE ?_ | with_reducible refine bR ?_ | refine bX rfl ?_
     all_goals with_reducible refine tN ?_
     all_goals (
      refine cR ?_
      refine oM rfl rfl ?_
      iterate 2 refine oA rfl rfl ?_
      refine oN ?_
      refine CW_ret ?_))
  all_goals (
   first
     | exact exitH (r0 := .tuple [.nilsl, .int (codeB p (pointB p c))]) (H0 := []) (.inr rfl) [] 0 (.cons (.tmp rfl rfl) (.cons (.tmp rfl rfl) .nil)) rfl rfl rfl vHn rfl rfl (listR_no hc rfl rfl)
     | (have e : i = (allPts p).length := by omega
        subst e
        rw [List.take_length] at hk hsp
        exact exitH (r0 := .tuple [.slice 0 0 ((allPts p).filter fun m => onAll p c m).length k, .int 0]) (H0 := [(0, .ints 61 (((allPts p).filter fun m => onAll p c m).flatten ++ sp))]) (.inr rfl) [(0, 2)] 1 (.cons (.tmp rfl rfl) (.cons (.tmp rfl rfl) .nil)) (by simp only [List.take_length]; rfl) rfl rfl (vHc (by simp only [List.take_length]; rfl) vHn) rfl rfl (listR_ok hc0 hk hsp rfl rfl)))
end Go.Proofs.Ytgfncdejnjikpaa
