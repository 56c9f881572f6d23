/- Secant numbers, blocking sets. Printed by gen_r1.py. -/
import Derived.Test.YtmcmbpoebhjecaaPr
namespace Go.Proofs.Ytmcmbpoebhjecaa
attribute [local irreducible] CW OW QW QOp Con thenP inBlockP
set_option maxRecDepth 10000
set_option linter.unusedSimpArgs false
set_option linter.unusedVariables false
theorem secTo_le {p : Int} {L K : List (List Int)} (k : Nat) : 0 ≤ (secTo p L K).getD k 0 ∧ (secTo p L K).getD k 0 ≤ (K.length : Int) := by
  by_cases h : k < (p + 2).toNat
  · rw [secTo_get h]
    have := List.length_filter_le (fun l => cntOn p L l == k) K
    omega
  · have : (secTo p L K).getD k 0 = 0 := by rw [List.getD, List.getElem?_eq_none (by rw [secTo_length]; omega)]; rfl
    omega
theorem takeS {L : List (List Int)} {i : Nat} (hi : i < L.length) : L.take i ++ [L.getD i []] = L.take (i + 1) := by
  rw [getD_lt hi, List.take_append_getElem hi]
theorem tup_bv {a b : Bool} {c : Int} (h : a = b) : V.tuple [.bool a, .int c] = V.tuple [.bool b, .int c] := by rw [h]
def blkB (p : Int) (L : List (List Int)) : Bool := decide ((secV p L).getD 0 0 = 0)
def blkV (p : Int) (L : List (List Int)) : Bool := if setC p L = 0 then blkB p L else false
def chunk (M : List Int) (n : Nat) : List (List Int) := (List.range n).map (elemAt 3 M)
theorem chunk_split {M : List Int} : ∀ {n : Nat}, n * 3 ≤ M.length → M = (chunk M n).flatten ++ M.drop (n * 3)
  | 0, _ => by simp [chunk]
  | n + 1, h => by
    have ih := chunk_split (M := M) (n := n) (by omega)
    have e : chunk M (n + 1) = chunk M n ++ [elemAt 3 M n] := by simp [chunk, List.range_succ]
    rw [e, List.flatten_append, List.append_assoc]
    have e2 : [elemAt 3 M n].flatten ++ M.drop ((n + 1) * 3) = M.drop (n * 3) := by
      have e3 : (n + 1) * 3 = n * 3 + 3 := by omega
      rw [e3, ← List.drop_drop]
      simp only [List.flatten_cons, List.flatten_nil, List.append_nil, elemAt]
      exact List.take_append_drop 3 _
    rw [e2]
    exact ih
def blkM (p : Int) (M : List Int) (n : Nat) : Bool := blkV p (chunk M n)
def setM (p : Int) (M : List Int) (n : Nat) : Int := setC p (chunk M n)
theorem blkM_zero (p : Int) (M : List Int) : blkM p M 0 = blkV p [] := rfl
theorem setM_zero (p : Int) (M : List Int) : setM p M 0 = setC p [] := rfl
theorem chunk_length (M : List Int) (n : Nat) : (chunk M n).length = n := by simp [chunk]
theorem chunk_three {M : List Int} {n : Nat} (h : n * 3 ≤ M.length) : ∀ x ∈ chunk M n, x.length = 3 := by
  intro x hx
  obtain ⟨i, hi, rfl⟩ := List.mem_map.1 hx
  have : i < n := by simpa using hi
  simp only [elemAt, List.length_take, List.length_drop]
  omega

theorem setCode_con (p : Int) (L : List (List Int)) (sp : List Int) (k : Nat) (h3 : ∀ x ∈ L, x.length = 3) (hn9 : L.length ≤ 1000000000) : ConQ Try.prog [] 60 [.int p, .slice 0 0 L.length k] [(0, .ints 49 (L.flatten ++ sp))] (.int (setC p L)) := by
  have hf3 := flat3 h3
  have e1 := allF_flat (g := pointB p) (sp := sp) h3
  have e2 := grows_flat (sp := sp) h3
  have hle : L.length * 3 ≤ (L.flatten ++ sp).length := by rw [List.length_append, hf3]; omega
  have hq1 := pointsCode_con p (L.flatten ++ sp) L.length k hle hn9
  have hq2 := isSet_con 49 (L.flatten ++ sp) L.length k hle hn9
  rw [e1] at hq1
  rw [e2] at hq2
  refine conW tab_ok [(0, .int p), (1, .slice 0 0 L.length k)] 1 [0] [0] Try.func60 rfl rfl rfl rfl rfl rfl rfl rfl rfl ?_
  refine cR ?_
  refine oA rfl rfl ?_
  refine oN ?_
  refine cR ?_
  iterate 2 refine oM rfl rfl ?_
  refine oQ (Q_call (hq1) [] rfl rfl (Fits.mk' (vHc rfl vHn) rfl rfl (by simp)) rfl rfl) rfl rfl ?_
  refine oA rfl rfl ?_
  refine oN ?_
  refine CW_seq ?_
  refine cR ?_
  refine oM rfl rfl ?_
  refine oQ (Q_bin rfl rfl rfl) rfl rfl ?_
  refine oM rfl rfl ?_
  all_goals first | refine oT rfl rfl ?_ | refine o1 rfl rfl rfl ?_ | refine o0 rfl rfl rfl ?_ | refine ogP1 rfl rfl rfl (fun hg => ?_) (fun hg => ?_) | refine ogP0 rfl rfl rfl (fun hg => ?_) (fun hg => ?_)
  all_goals try simp only [s1, s2, s3, s4, s5, s6, s7, s8, s9, s10, s11, s12] at hg
  all_goals first | (refine oM rfl rfl ?_) | skip
  all_goals first | refine oT rfl rfl ?_ | refine o1 rfl rfl rfl ?_ | refine o0 rfl rfl rfl ?_ | refine ogP1 rfl rfl rfl (fun hg => ?_) (fun hg => ?_) | refine ogP0 rfl rfl rfl (fun hg => ?_) (fun hg => ?_)
  all_goals try simp only [s1, s2, s3, s4, s5, s6, s7, s8, s9, s10, s11, s12] at hg
  all_goals first | (refine oQ (Q_call (hq2) [] rfl rfl (Fits.mk' (vHc rfl vHn) rfl rfl (by simp)) rfl rfl) rfl rfl ?_) | skip
  all_goals first | refine oT rfl rfl ?_ | refine o1 rfl rfl rfl ?_ | refine o0 rfl rfl rfl ?_ | refine ogP1 rfl rfl rfl (fun hg => ?_) (fun hg => ?_) | refine ogP0 rfl rfl rfl (fun hg => ?_) (fun hg => ?_)
  all_goals try simp only [s1, s2, s3, s4, s5, s6, s7, s8, s9, s10, s11, s12] at hg
  all_goals first | (refine oQ (Q_not rfl) rfl rfl ?_) | skip
  all_goals first | refine oQ (Q_pick_t rfl (by with_reducible rfl) rfl rfl) rfl rfl ?_ | refine oQ (Q_pick_f rfl (by with_reducible rfl) rfl rfl) rfl rfl ?_
  all_goals refine oN ?_
  all_goals (
   first | refine cT rfl ?_ | refine cF rfl ?_ | refine CW_cond rfl (fun hc => ?_) (fun hc => ?_)
   all_goals try simp only [s1, s2, s3, s4, s5, s6, s7, s8, s9, s10, s11, s12] at hc
   all_goals try (exfalso; first | (simp at hc; done) | (simp at hg; done); done)
   all_goals first
     | (
      refine CW_skip ?_)
     | (
      refine cR ?_
      refine oA rfl rfl ?_
      refine oN ?_
      refine CW_ret ?_))
  all_goals first
    | with_reducible refine tR ?_
    | with_reducible refine tE ?_
    | (
     with_reducible refine tN ?_
     refine cR ?_
     refine oM rfl rfl ?_
     refine oA rfl rfl ?_
     refine oN ?_
     refine CW_ret ?_)
  all_goals (
   refine exitQ (.inr rfl) 1 (.cons (.tmp rfl rfl) .nil) ?_ rfl (vHc rfl vHn) rfl rfl
   refine congrArg V.int ?_
   simp only [setC, codeB]
   first | (simp_all [growL]; done) | (split <;> simp_all [growL]; done))
theorem setCode_nil (p : Int) : ConQ Try.prog [] 60 [.int p, .nilsl] [] (.int (setC p [])) := by
  have hq1 := pointsCode_nil p
  have hq2 := isSet_nil
  refine conW tab_ok [(0, .int p), (1, .nilsl)] 0 [] [] Try.func60 rfl rfl rfl rfl rfl rfl rfl rfl rfl ?_
  refine cR ?_
  refine oA rfl rfl ?_
  refine oN ?_
  refine cR ?_
  iterate 2 refine oM rfl rfl ?_
  refine oQ (Q_call0 (hq1) rfl rfl rfl) rfl rfl ?_
  refine oA rfl rfl ?_
  refine oN ?_
  refine CW_seq ?_
  refine cR ?_
  refine oM rfl rfl ?_
  refine oQ (Q_bin rfl rfl rfl) rfl rfl ?_
  refine oM rfl rfl ?_
  all_goals first | refine oT rfl rfl ?_ | refine o1 rfl rfl rfl ?_ | refine o0 rfl rfl rfl ?_ | refine ogP1 rfl rfl rfl (fun hg => ?_) (fun hg => ?_) | refine ogP0 rfl rfl rfl (fun hg => ?_) (fun hg => ?_)
  all_goals try simp only [s1, s2, s3, s4, s5, s6, s7, s8, s9, s10, s11, s12] at hg
  all_goals first | (refine oM rfl rfl ?_) | skip
  all_goals first | refine oT rfl rfl ?_ | refine o1 rfl rfl rfl ?_ | refine o0 rfl rfl rfl ?_ | refine ogP1 rfl rfl rfl (fun hg => ?_) (fun hg => ?_) | refine ogP0 rfl rfl rfl (fun hg => ?_) (fun hg => ?_)
  all_goals try simp only [s1, s2, s3, s4, s5, s6, s7, s8, s9, s10, s11, s12] at hg
  all_goals first | (refine oQ (Q_call0 (hq2) rfl rfl rfl) rfl rfl ?_) | skip
  all_goals first | refine oT rfl rfl ?_ | refine o1 rfl rfl rfl ?_ | refine o0 rfl rfl rfl ?_ | refine ogP1 rfl rfl rfl (fun hg => ?_) (fun hg => ?_) | refine ogP0 rfl rfl rfl (fun hg => ?_) (fun hg => ?_)
  all_goals try simp only [s1, s2, s3, s4, s5, s6, s7, s8, s9, s10, s11, s12] at hg
  all_goals first | (refine oQ (Q_not rfl) rfl rfl ?_) | skip
  all_goals first | refine oQ (Q_pick_t rfl (by with_reducible rfl) rfl rfl) rfl rfl ?_ | refine oQ (Q_pick_f rfl (by with_reducible rfl) rfl rfl) rfl rfl ?_
  all_goals refine oN ?_
  all_goals (
   first | refine cT rfl ?_ | refine cF rfl ?_ | refine CW_cond rfl (fun hc => ?_) (fun hc => ?_)
   all_goals try simp only [s1, s2, s3, s4, s5, s6, s7, s8, s9, s10, s11, s12] at hc
   all_goals try (exfalso; first | (simp at hc; done) | (simp at hg; done); done)
   all_goals first
     | (
      refine CW_skip ?_)
     | (
      refine cR ?_
      refine oA rfl rfl ?_
      refine oN ?_
      refine CW_ret ?_))
  all_goals first
    | with_reducible refine tR ?_
    | with_reducible refine tE ?_
    | (
     with_reducible refine tN ?_
     refine cR ?_
     refine oM rfl rfl ?_
     refine oA rfl rfl ?_
     refine oN ?_
     refine CW_ret ?_)
  all_goals (
   refine exitQ (.inr rfl) 0 (.cons (.tmp rfl rfl) .nil) ?_ rfl vHn rfl rfl
   refine congrArg V.int ?_
   simp only [setC, codeB]
   first | (simp_all [growL]; done) | (split <;> simp_all [growL]; done))
theorem l07Code_con (p : Int) (L : List (List Int)) (sp : List Int) (k : Nat) (h3 : ∀ x ∈ L, x.length = 3) (hn9 : L.length ≤ 1000000000) : ConQ Try.prog [] 58 [.int p, .slice 0 0 L.length k] [(0, .ints 49 (L.flatten ++ sp))] (.int (setC p L)) := by
  have hf3 := flat3 h3
  have e1 := allF_flat (g := pointB p) (sp := sp) h3
  have e2 := grows_flat (sp := sp) h3
  have hle : L.length * 3 ≤ (L.flatten ++ sp).length := by rw [List.length_append, hf3]; omega
  have hq1 := l01Code_con p 49 (L.flatten ++ sp) L.length k hle hn9
  have hq2 := l07Is_con 49 (L.flatten ++ sp) L.length k hle hn9
  rw [e1] at hq1
  rw [e2] at hq2
  refine conW tab_ok [(0, .int p), (1, .slice 0 0 L.length k)] 1 [0] [0] Try.func58 rfl rfl rfl rfl rfl rfl rfl rfl rfl ?_
  refine cR ?_
  refine oA rfl rfl ?_
  refine oN ?_
  refine cR ?_
  iterate 2 refine oM rfl rfl ?_
  refine oQ (Q_call (hq1) [] rfl rfl (Fits.mk' (vHc rfl vHn) rfl rfl (by simp)) rfl rfl) rfl rfl ?_
  refine oA rfl rfl ?_
  refine oN ?_
  refine CW_seq ?_
  refine cR ?_
  refine oM rfl rfl ?_
  refine oQ (Q_bin rfl rfl rfl) rfl rfl ?_
  refine oM rfl rfl ?_
  all_goals first | refine oT rfl rfl ?_ | refine o1 rfl rfl rfl ?_ | refine o0 rfl rfl rfl ?_ | refine ogP1 rfl rfl rfl (fun hg => ?_) (fun hg => ?_) | refine ogP0 rfl rfl rfl (fun hg => ?_) (fun hg => ?_)
  all_goals try simp only [s1, s2, s3, s4, s5, s6, s7, s8, s9, s10, s11, s12] at hg
  all_goals first | (refine oM rfl rfl ?_) | skip
  all_goals first | refine oT rfl rfl ?_ | refine o1 rfl rfl rfl ?_ | refine o0 rfl rfl rfl ?_ | refine ogP1 rfl rfl rfl (fun hg => ?_) (fun hg => ?_) | refine ogP0 rfl rfl rfl (fun hg => ?_) (fun hg => ?_)
  all_goals try simp only [s1, s2, s3, s4, s5, s6, s7, s8, s9, s10, s11, s12] at hg
  all_goals first | (refine oQ (Q_call (hq2) [] rfl rfl (Fits.mk' (vHc rfl vHn) rfl rfl (by simp)) rfl rfl) rfl rfl ?_) | skip
  all_goals first | refine oT rfl rfl ?_ | refine o1 rfl rfl rfl ?_ | refine o0 rfl rfl rfl ?_ | refine ogP1 rfl rfl rfl (fun hg => ?_) (fun hg => ?_) | refine ogP0 rfl rfl rfl (fun hg => ?_) (fun hg => ?_)
  all_goals try simp only [s1, s2, s3, s4, s5, s6, s7, s8, s9, s10, s11, s12] at hg
  all_goals first | (refine oQ (Q_not rfl) rfl rfl ?_) | skip
  all_goals first | refine oQ (Q_pick_t rfl (by with_reducible rfl) rfl rfl) rfl rfl ?_ | refine oQ (Q_pick_f rfl (by with_reducible rfl) rfl rfl) rfl rfl ?_
  all_goals refine oN ?_
  all_goals (
   first | refine cT rfl ?_ | refine cF rfl ?_ | refine CW_cond rfl (fun hc => ?_) (fun hc => ?_)
   all_goals try simp only [s1, s2, s3, s4, s5, s6, s7, s8, s9, s10, s11, s12] at hc
   all_goals try (exfalso; first | (simp at hc; done) | (simp at hg; done); done)
   all_goals first
     | (
      refine CW_skip ?_)
     | (
      refine CW_region ?_
      refine oA rfl rfl ?_
      refine OW_nil ?_))
  all_goals with_reducible refine tN ?_
  all_goals (
   refine cR ?_
   refine oM rfl rfl ?_
   refine oA rfl rfl ?_
   refine oN ?_
   refine CW_ret ?_)
  all_goals (
   refine exitQ (.inr rfl) 1 (.cons (.tmp rfl rfl) .nil) ?_ rfl (vHc rfl vHn) rfl rfl
   refine congrArg V.int ?_
   simp only [setC, codeB]
   first | (simp_all [growL]; done) | (split <;> simp_all [growL]; done))
theorem onLine_con (p : Int) (L : List (List Int)) (sp : List Int) (k : Nat) (h3 : ∀ x ∈ L, x.length = 3) (l : List Int) (hS : setC p L = 0) (hl : l ∈ allPts p) : ConQ Try.prog [] 70 [.int p, .slice 0 0 L.length k, .arr l] [(0, .ints 49 (L.flatten ++ sp))] (.int (cntOn p L l)) := by
  obtain ⟨hp, hv, _, hn60⟩ := setC_zero hS
  have hf3 := flat3 h3
  have hll := allPts_three hl
  have hls := allPts_sm hp hl
  refine conW tab_ok [(0, .int p), (1, .slice 0 0 L.length k), (2, .arr l)] 1 [0] [0] Try.func70 rfl rfl rfl rfl rfl rfl rfl rfl rfl ?_
  refine cR ?_
  refine oBox rfl rfl rfl rfl rfl rfl ?_
  refine oA rfl rfl ?_
  refine oN ?_
  refine cR ?_
  refine oA rfl rfl ?_
  refine oN ?_
  refine CW_seq ?_
  refine cR ?_
  refine oM rfl rfl ?_
  first | refine oQ (Q_len rfl rfl rfl rfl) rfl rfl ?_ | refine oQ (Q_len0 rfl rfl rfl rfl) rfl rfl ?_
  refine oM rfl rfl ?_
  refine oN ?_
  refine CW_block ?_
  refine CW_loop (ι := Nat) (fun i => i ≤ L.length) (fun i => ⟨[(0, .int p), (5, .ptr 1 0), (7, .int ((((L.take i).filter fun a => onB p a l).length : Nat) : Int)), (10, .slice 0 0 L.length k), (11, .int (L.length : Nat)), (12, .int (i : Nat))], [(0, .ints 49 (L.flatten ++ sp)), (1, .ints 55 l)], 2⟩) (fun i => L.length - i) 0 ?_ ?_ ?_
  · first | trivial | omega | (simp; done) | (simp; omega)
  · refine View.mk' [] rfl rfl rfl ?_ ?_
    repeat' first | exact vFn | refine vFc rfl ?_ | exact vHn | refine vHc rfl ?_ | refine vFc (congrArg (fun z => some (V.int z)) ?_) ?_ | refine vHc (congrArg (fun z => some (Blk.ints _ z)) ?_) ?_ | refine vFc (congrArg (fun z => some (V.bool z)) ?_) ?_ | refine vFs rfl rfl ?_ ?_
  intro i hi
  have hmem := fun h : i < L.length => point_mem (h3 _ (getD_mem h)) (hv _ (getD_mem h))
  have h3i := fun h : i < L.length => h3 _ (getD_mem h)
  have hfn := filter_len (g := fun a => onB p a l) i hi
  refine cR ?_
  refine oQ (Q_bin rfl rfl rfl) rfl rfl ?_
  refine oN ?_
  refine CW_seq ?_
  first | refine cT rfl ?_ | refine cF rfl ?_ | refine CW_cond rfl (fun hc => ?_) (fun hc => ?_)
  all_goals try simp only [s1, s2, s3, s4, s5, s6, s7, s8, s9, s10, s11, s12] at hc
  all_goals first
    | (
     refine CW_skip ?_)
    | (
     refine CW_exit ?_)
  all_goals first
    | with_reducible refine tR ?_
    | with_reducible refine tE ?_
    | (
     with_reducible refine tN ?_
     refine CW_seq ?_
     refine CW_block ?_
     refine cR ?_
     (have h3i := h3i (by omega)); (have hmem := hmem (by omega)); refine oQ (Q_ixs0z 3 rfl rfl rfl rfl rfl rfl (by omega)) rfl rfl ?_
     refine oQ (Q_lda (n := 3) rfl rfl rfl rfl rfl (by rw [List.length_append, hf3]; omega)) rfl rfl ?_; rw [flat_get h3 (show i < L.length by omega)]
     refine oAlloc rfl rfl rfl rfl rfl rfl rfl ?_
     first | refine oSw rfl rfl rfl rfl ?_ | refine oSa rfl rfl rfl rfl ?_
     refine oN ?_
     refine cR ?_
     refine oM rfl rfl ?_
     refine oQ (Q_ldw rfl rfl rfl rfl h3i) rfl rfl ?_
     refine oQ (Q_ldw rfl rfl rfl rfl hll) rfl rfl ?_
     refine oQ (Q_call0 (isOn_con p _ l hp h3i hll (allPts_sm hp hmem) hls) rfl rfl rfl) rfl rfl ?_
     refine oN ?_
     first | refine cT rfl ?_ | refine cF rfl ?_ | refine CW_cond rfl (fun hc => ?_) (fun hc => ?_)
     all_goals try simp only [s1, s2, s3, s4, s5, s6, s7, s8, s9, s10, s11, s12] at hc
     all_goals first
       | (
        refine CW_skip ?_)
       | (
        refine CW_region ?_
        refine oM rfl rfl ?_
        first | refine oQ (Q_binu rfl rfl rfl (by omega)) rfl rfl ?_ | refine oQ (Q_bin rfl rfl rfl) rfl rfl ?_
        refine oA rfl rfl ?_
        refine OW_nil ?_)
     all_goals first | with_reducible refine bN ?_ | with_reducible refine bE ?_ | with_reducible refine bR ?_ | refine bX rfl ?_
     all_goals with_reducible refine tN ?_
     all_goals (
      refine CW_region ?_
      first | refine oQ (Q_binu rfl rfl rfl (by omega)) rfl rfl ?_ | refine oQ (Q_bin rfl rfl rfl) rfl rfl ?_
      refine oM rfl rfl ?_
      refine OW_nil ?_))
  all_goals first
    | with_reducible refine tR ?_
    | with_reducible refine tE ?_
    | (
     with_reducible refine tN ?_
     refine ⟨i + 1, ?_, ?_, View.mk' [] rfl rfl rfl ?_ ?_⟩
     · omega
     · omega
     all_goals (repeat' first | exact vFn | refine vFc rfl ?_ | exact vHn | refine vHc rfl ?_ | refine vFc (congrArg (fun z => some (V.int z)) ?_) ?_ | refine vHc (congrArg (fun z => some (Blk.ints _ z)) ?_) ?_ | refine vFc (congrArg (fun z => some (V.bool z)) ?_) ?_ | refine vFs rfl rfl ?_ ?_)
     all_goals try dsimp only
     all_goals first | (rw [filter_snoc (by omega) hc, List.length_append]; rfl) | (rw [filter_skip (by omega) hc]) | skip)
  all_goals first | with_reducible refine bN ?_ | with_reducible refine bE ?_ | with_reducible refine bR ?_ | refine bX rfl ?_
  all_goals with_reducible refine tN ?_
  all_goals (
   refine cR ?_
   refine oM rfl rfl ?_
   refine oA rfl rfl ?_
   refine oN ?_
   refine CW_ret ?_)
  all_goals (
   refine exitQ (.inr rfl) 1 (.cons (.tmp rfl rfl) .nil) ?_ rfl (vHc rfl vHn) rfl rfl
   have e : i = L.length := by omega
   subst e
   rw [List.take_length]
   rfl)
theorem onLine_nil (p : Int)  (l : List Int) (hp : primeB p = true) (hl : l ∈ allPts p) : ConQ Try.prog [] 70 [.int p, .nilsl, .arr l] [] (.int (cntOn p ([] : List (List Int)) l)) := by
  have hll := allPts_three hl
  have hls := allPts_sm hp hl
  refine conW tab_ok [(0, .int p), (1, .nilsl), (2, .arr l)] 0 [] [] Try.func70 rfl rfl rfl rfl rfl rfl rfl rfl rfl ?_
  refine cR ?_
  refine oBox rfl rfl rfl rfl rfl rfl ?_
  refine oA rfl rfl ?_
  refine oN ?_
  refine cR ?_
  refine oA rfl rfl ?_
  refine oN ?_
  refine CW_seq ?_
  refine cR ?_
  refine oM rfl rfl ?_
  first | refine oQ (Q_len rfl rfl rfl rfl) rfl rfl ?_ | refine oQ (Q_len0 rfl rfl rfl rfl) rfl rfl ?_
  refine oM rfl rfl ?_
  refine oN ?_
  refine CW_block ?_
  refine CW_loop (ι := Nat) (fun i => i ≤ 0) (fun i => ⟨[(0, .int p), (5, .ptr 0 0), (7, .int ((0 : Nat) : Int)), (10, .nilsl), (11, .int (0 : Nat)), (12, .int (i : Nat))], [(0, .ints 55 l)], 1⟩) (fun i => 0 - i) 0 ?_ ?_ ?_
  · first | trivial | omega | (simp; done) | (simp; omega)
  · refine View.mk' [] rfl rfl rfl ?_ ?_
    repeat' first | exact vFn | refine vFc rfl ?_ | exact vHn | refine vHc rfl ?_ | refine vFc (congrArg (fun z => some (V.int z)) ?_) ?_ | refine vHc (congrArg (fun z => some (Blk.ints _ z)) ?_) ?_ | refine vFc (congrArg (fun z => some (V.bool z)) ?_) ?_ | refine vFs rfl rfl ?_ ?_
  intro i hi
  refine cR ?_
  refine oQ (Q_bin rfl rfl rfl) rfl rfl ?_
  refine oN ?_
  refine CW_seq ?_
  first | refine cT rfl ?_ | refine cF rfl ?_ | refine CW_cond rfl (fun hc => ?_) (fun hc => ?_)
  all_goals try simp only [s1, s2, s3, s4, s5, s6, s7, s8, s9, s10, s11, s12] at hc
  all_goals try (exfalso; first | omega | (simp at hc; done); done)
  all_goals first
    | (
     refine CW_skip ?_)
    | (
     refine CW_exit ?_)
  all_goals first
    | with_reducible refine tR ?_
    | with_reducible refine tE ?_
    | (
     with_reducible refine tN ?_
     refine CW_seq ?_
     refine CW_block ?_
     refine cR ?_
     first | refine oQ (Q_ixs0z 3 rfl rfl rfl rfl rfl rfl (by first | omega | (dsimp only; omega) | (simp; omega) | (simp; done))) rfl rfl ?_ | refine oQ (Q_ixsz 3 rfl rfl rfl rfl rfl rfl (by first | omega | (dsimp only; omega) | (simp; omega) | (simp; done))) rfl rfl ?_
     first | refine oQ (Lw rfl rfl rfl rfl) rfl rfl ?_ | refine oQ (La rfl rfl rfl rfl rfl) rfl rfl ?_
     refine oAlloc rfl rfl rfl rfl rfl rfl rfl ?_
     first | refine oSw rfl rfl rfl rfl ?_ | refine oSa rfl rfl rfl rfl ?_
     refine oN ?_
     refine cR ?_
     refine oM rfl rfl ?_
     first | refine oQ (Lw rfl rfl rfl rfl) rfl rfl ?_ | refine oQ (La rfl rfl rfl rfl rfl) rfl rfl ?_
     first | refine oQ (Lw rfl rfl rfl rfl) rfl rfl ?_ | refine oQ (La rfl rfl rfl rfl rfl) rfl rfl ?_
     fail "call of loop.example/g01310/impl.isOn at slot 19"
     refine oN ?_
     first | refine cT rfl ?_ | refine cF rfl ?_ | refine CW_cond rfl (fun hc => ?_) (fun hc => ?_)
     all_goals try simp only [s1, s2, s3, s4, s5, s6, s7, s8, s9, s10, s11, s12] at hc
     all_goals try (exfalso; first | omega | (simp at hc; done); done)
     all_goals first
       | (
        refine CW_skip ?_)
       | (
        refine CW_region ?_
        refine oM rfl rfl ?_
        first | refine oQ (Q_binu rfl rfl rfl (by omega)) rfl rfl ?_ | refine oQ (Q_bin rfl rfl rfl) rfl rfl ?_
        refine oA rfl rfl ?_
        refine OW_nil ?_)
     all_goals first | with_reducible refine bN ?_ | with_reducible refine bE ?_ | with_reducible refine bR ?_ | refine bX rfl ?_
     all_goals with_reducible refine tN ?_
     all_goals (
      refine CW_region ?_
      first | refine oQ (Q_binu rfl rfl rfl (by omega)) rfl rfl ?_ | refine oQ (Q_bin rfl rfl rfl) rfl rfl ?_
      refine oM rfl rfl ?_
      refine OW_nil ?_))
  all_goals first
    | with_reducible refine tR ?_
    | with_reducible refine tE ?_
    | (
     with_reducible refine tN ?_
     refine ⟨i + 1, ?_, ?_, View.mk' [] rfl rfl rfl ?_ ?_⟩
     · omega
     · omega
     all_goals (repeat' first | exact vFn | refine vFc rfl ?_ | exact vHn | refine vHc rfl ?_ | refine vFc (congrArg (fun z => some (V.int z)) ?_) ?_ | refine vHc (congrArg (fun z => some (Blk.ints _ z)) ?_) ?_ | refine vFc (congrArg (fun z => some (V.bool z)) ?_) ?_ | refine vFs rfl rfl ?_ ?_)
     all_goals skip)
  all_goals first | with_reducible refine bN ?_ | with_reducible refine bE ?_ | with_reducible refine bR ?_ | refine bX rfl ?_
  all_goals with_reducible refine tN ?_
  all_goals (
   refine cR ?_
   refine oM rfl rfl ?_
   refine oA rfl rfl ?_
   refine oN ?_
   refine CW_ret ?_)
  all_goals (
   refine exitQ (.inr rfl) 0 (.cons (.tmp rfl rfl) .nil) ?_ rfl vHn rfl rfl
   rfl)
theorem l07Count_con (p : Int) (L : List (List Int)) (sp : List Int) (k : Nat) (h3 : ∀ x ∈ L, x.length = 3) (l : List Int) (hS : setC p L = 0) (hl : l ∈ allPts p) : ConQ Try.prog [] 67 [.int p, .slice 0 0 L.length k, .arr l] [(0, .ints 49 (L.flatten ++ sp))] (.int (cntOn p L l)) := by
  obtain ⟨hp, hv, _, hn60⟩ := setC_zero hS
  have hf3 := flat3 h3
  have hll := allPts_three hl
  have hls := allPts_sm hp hl
  refine conW tab_ok [(0, .int p), (1, .slice 0 0 L.length k), (2, .arr l)] 1 [0] [0] Try.func67 rfl rfl rfl rfl rfl rfl rfl rfl rfl ?_
  refine cR ?_
  refine oBox rfl rfl rfl rfl rfl rfl ?_
  refine oA rfl rfl ?_
  refine oN ?_
  refine cR ?_
  refine oA rfl rfl ?_
  refine oN ?_
  refine CW_seq ?_
  refine cR ?_
  refine oA rfl rfl ?_
  refine oN ?_
  refine CW_block ?_
  refine CW_loop (ι := Nat) (fun i => i ≤ L.length) (fun i => ⟨[(0, .int p), (1, .slice 0 0 L.length k), (5, .ptr 1 0), (7, .int ((((L.take i).filter fun a => onB p a l).length : Nat) : Int)), (8, .int (i : Nat))], [(0, .ints 49 (L.flatten ++ sp)), (1, .ints 55 l)], 2⟩) (fun i => L.length - i) 0 ?_ ?_ ?_
  · first | trivial | omega | (simp; done) | (simp; omega)
  · refine View.mk' [] rfl rfl rfl ?_ ?_
    repeat' first | exact vFn | refine vFc rfl ?_ | exact vHn | refine vHc rfl ?_ | refine vFc (congrArg (fun z => some (V.int z)) ?_) ?_ | refine vHc (congrArg (fun z => some (Blk.ints _ z)) ?_) ?_ | refine vFc (congrArg (fun z => some (V.bool z)) ?_) ?_ | refine vFs rfl rfl ?_ ?_
  intro i hi
  have hmem := fun h : i < L.length => point_mem (h3 _ (getD_mem h)) (hv _ (getD_mem h))
  have h3i := fun h : i < L.length => h3 _ (getD_mem h)
  have hfn := filter_len (g := fun a => onB p a l) i hi
  refine CW_seq ?_
  refine cR ?_
  iterate 2 refine oM rfl rfl ?_
  first | refine oQ (Q_len rfl rfl rfl rfl) rfl rfl ?_ | refine oQ (Q_len0 rfl rfl rfl rfl) rfl rfl ?_
  refine oQ (Q_bin rfl rfl rfl) rfl rfl ?_
  refine oN ?_
  first | refine cT rfl ?_ | refine cF rfl ?_ | refine CW_cond rfl (fun hc => ?_) (fun hc => ?_)
  all_goals try simp only [s1, s2, s3, s4, s5, s6, s7, s8, s9, s10, s11, s12] at hc
  all_goals first
    | (
     refine CW_skip ?_)
    | (
     refine CW_exit ?_)
  all_goals first
    | with_reducible refine tR ?_
    | with_reducible refine tE ?_
    | (
     with_reducible refine tN ?_
     refine CW_seq ?_
     refine CW_block ?_
     refine CW_seq ?_
     refine CW_draw lateOk (by decide +kernel) ?_
     iterate 3 refine qM rfl rfl ?_
     (have h3i := h3i (by omega)); (have hmem := hmem (by omega)); refine qQ (Q_ixs0z 3 rfl rfl rfl rfl rfl rfl (by omega)) rfl rfl ?_
     refine qQ (Q_lda (n := 3) rfl rfl rfl rfl rfl (by rw [List.length_append, hf3]; omega)) rfl rfl ?_; rw [flat_get h3 (show i < L.length by omega)]
     refine qQ (Q_ldw rfl rfl rfl rfl hll) rfl rfl ?_
     refine qQ (Q_call0 (l01On_con p _ l hp h3i hll (allPts_sm hp hmem) hls) rfl rfl rfl) rfl rfl ?_
     refine QW_nil ?_
     all_goals with_reducible refine tN ?_
     all_goals (
      first | refine cT rfl ?_ | refine cF rfl ?_ | refine CW_cond rfl (fun hc => ?_) (fun hc => ?_)
      all_goals try simp only [s1, s2, s3, s4, s5, s6, s7, s8, s9, s10, s11, s12] at hc
      all_goals first
        | (
         refine CW_skip ?_)
        | (
         refine CW_region ?_
         refine oM rfl rfl ?_
         first | refine oQ (Q_binu rfl rfl rfl (by omega)) rfl rfl ?_ | refine oQ (Q_bin rfl rfl rfl) rfl rfl ?_
         refine oA rfl rfl ?_
         refine OW_nil ?_))
     all_goals first | with_reducible refine bN ?_ | with_reducible refine bE ?_ | with_reducible refine bR ?_ | refine bX rfl ?_
     all_goals with_reducible refine tN ?_
     all_goals (
      refine CW_region ?_
      refine oM rfl rfl ?_
      first | refine oQ (Q_binu rfl rfl rfl (by omega)) rfl rfl ?_ | refine oQ (Q_bin rfl rfl rfl) rfl rfl ?_
      refine oA rfl rfl ?_
      refine OW_nil ?_))
  all_goals first
    | with_reducible refine tR ?_
    | with_reducible refine tE ?_
    | (
     with_reducible refine tN ?_
     refine ⟨i + 1, ?_, ?_, View.mk' [] rfl rfl rfl ?_ ?_⟩
     · omega
     · omega
     all_goals (repeat' first | exact vFn | refine vFc rfl ?_ | exact vHn | refine vHc rfl ?_ | refine vFc (congrArg (fun z => some (V.int z)) ?_) ?_ | refine vHc (congrArg (fun z => some (Blk.ints _ z)) ?_) ?_ | refine vFc (congrArg (fun z => some (V.bool z)) ?_) ?_ | refine vFs rfl rfl ?_ ?_)
     all_goals try dsimp only
     all_goals first | (rw [filter_snoc (by omega) hc, List.length_append]; rfl) | (rw [filter_skip (by omega) hc]) | skip)
  all_goals first | with_reducible refine bN ?_ | with_reducible refine bE ?_ | with_reducible refine bR ?_ | refine bX rfl ?_
  all_goals with_reducible refine tN ?_
  all_goals (
   refine cR ?_
   refine oM rfl rfl ?_
   refine oA rfl rfl ?_
   refine oN ?_
   refine CW_ret ?_)
  all_goals (
   refine exitQ (.inr rfl) 1 (.cons (.tmp rfl rfl) .nil) ?_ rfl (vHc rfl vHn) rfl rfl
   have e : i = L.length := by omega
   subst e
   rw [List.take_length]
   rfl)
theorem secants_con (p : Int) (L : List (List Int)) (sp : List Int) (k : Nat) (h3 : ∀ x ∈ L, x.length = 3) (hS : setC p L = 0) : Con Try.prog [] 65 [.int p, .slice 0 0 L.length k] [(0, .ints 49 (L.flatten ++ sp))] (fun r H' => r = .slice 1 0 (p + 2).toNat (p + 2).toNat ∧ H' = [(0, .ints 49 (L.flatten ++ sp)), (1, .ints 2 (secV p L))]) := by
  obtain ⟨hp, hv, _, hn60⟩ := setC_zero hS
  obtain ⟨n, hpn, hn⟩ := of_prime hp
  have hpb := prime_bd hp
  have hn2 : (p + 2).toNat = n + 2 := by omega
  have hal := allPts_len hp
  have h3a : ∀ x ∈ (allPts p), x.length = 3 := fun x hx => allPts_three hx
  have hfa := flat3 h3a
  refine conW tab_ok [(0, .int p), (1, .slice 0 0 L.length k)] 1 [0] [0] Try.func65 rfl rfl rfl rfl rfl rfl rfl rfl rfl ?_
  refine cR ?_
  refine oA rfl rfl ?_
  refine oN ?_
  refine cR ?_
  refine oM rfl rfl ?_
  refine oQ (Q_binu (z := ((n + 2 : Nat) : Int)) rfl rfl (congrArg some (by omega)) (by omega)) rfl rfl ?_
  refine oMk rfl rfl rfl ⟨by decide, rfl, .inl ⟨rfl, rfl⟩⟩ rfl rfl rfl (by first | omega | (dsimp only; omega) | (simp; omega) | (simp; done)) (by first | omega | (dsimp only; omega) | (simp; omega) | (simp; done)) (by first | omega | (dsimp only; omega) | (simp; omega) | (simp; done)) rfl rfl ?_
  refine oA rfl rfl ?_
  refine oN ?_
  refine CW_seq ?_
  refine cR ?_
  refine oM rfl rfl ?_
  refine oCall (allPoints_con p hp) [] 1 rfl rfl (Fits.mk' vHn rfl rfl (by simp)) rfl rfl ?_
  rintro r H1 ⟨k0, sp0, hk0, hsp0, rfl, rfl⟩
  refine ⟨.slice 2 0 (allPts p).length k0, [(2, .ints 49 ((allPts p).flatten ++ sp0))], rfl, rfl, rfl, ?_⟩
  first | refine oQ (Q_len rfl rfl rfl rfl) rfl rfl ?_ | refine oQ (Q_len0 rfl rfl rfl rfl) rfl rfl ?_
  refine oM rfl rfl ?_
  refine oN ?_
  refine CW_block ?_
  refine CW_loop (ι := Nat) (fun i => i ≤ (allPts p).length) (fun i => ⟨[(0, .int p), (1, .slice 0 0 L.length k), (5, .slice 1 0 (n + 2) (n + 2)), (12, .slice 2 0 (allPts p).length k0), (13, .int ((allPts p).length : Nat)), (14, .int (i : Nat))], [(0, .ints 49 (L.flatten ++ sp)), (1, .ints 2 (secTo p L ((allPts p).take i))), (2, .ints 49 ((allPts p).flatten ++ sp0))], 3⟩) (fun i => (allPts p).length - i) 0 ?_ ?_ ?_
  · first | trivial | omega | (simp; done) | (simp; omega)
  · refine View.mk' [] rfl rfl rfl ?_ ?_
    repeat' first | exact vFn | refine vFc rfl ?_ | exact vHn | refine vHc rfl ?_ | refine vFc (congrArg (fun z => some (V.int z)) ?_) ?_ | refine vHc (congrArg (fun z => some (Blk.ints _ z)) ?_) ?_ | refine vFc (congrArg (fun z => some (V.bool z)) ?_) ?_ | refine vFs rfl rfl ?_ ?_
    all_goals rw [List.take_zero, secTo_nil, Nat.mul_one, hn2]
  intro i hi
  have hmem := fun h : i < (allPts p).length => getD_mem h
  have h3i := fun h : i < (allPts p).length => h3a _ (getD_mem h)
  have hsl : (secTo p L ((allPts p).take i)).length = n + 2 := (secTo_length _ _ _).trans hn2
  have hct := fun h : i < (allPts p).length => (show cntOn p L ((allPts p).getD i []) < n + 2 by have := set_count h3 hS (getD_mem h); omega)
  have hse := fun q => secTo_le (p := p) (L := L) (K := (allPts p).take i) q
  have htk : ((allPts p).take i).length ≤ 183 := by rw [List.length_take]; omega
  refine cR ?_
  refine oQ (Q_bin rfl rfl rfl) rfl rfl ?_
  refine oN ?_
  refine CW_seq ?_
  first | refine cT rfl ?_ | refine cF rfl ?_ | refine CW_cond rfl (fun hc => ?_) (fun hc => ?_)
  all_goals try simp only [s1, s2, s3, s4, s5, s6, s7, s8, s9, s10, s11, s12] at hc
  all_goals first
    | (
     refine CW_skip ?_)
    | (
     refine CW_exit ?_)
  all_goals first
    | with_reducible refine tR ?_
    | with_reducible refine tE ?_
    | (
     with_reducible refine tN ?_
     refine CW_seq ?_
     refine CW_block ?_
     refine cR ?_
     (have h3i := h3i (by omega)); (have hmem := hmem (by omega)); (have hct := hct (by omega)); (have hse := hse (cntOn p L ((allPts p).getD i []))); refine oQ (Q_ixs0z 3 rfl rfl rfl rfl rfl rfl (by omega)) rfl rfl ?_
     refine oQ (Q_lda (n := 3) rfl rfl rfl rfl rfl (by rw [List.length_append, hfa]; omega)) rfl rfl ?_; rw [flat_get h3a (show i < (allPts p).length by omega)]
     refine oAlloc rfl rfl rfl rfl rfl rfl rfl ?_
     first | refine oSw rfl rfl rfl rfl ?_ | refine oSa rfl rfl rfl rfl ?_
     refine oN ?_
     refine CW_region ?_
     iterate 3 refine oM rfl rfl ?_
     refine oQ (Q_ldw rfl rfl rfl rfl h3i) rfl rfl ?_
     refine oQ (Q_call (onLine_con p L sp k h3 _ hS hmem) [] rfl rfl (Fits.mk' (vHc rfl vHn) rfl rfl (by simp)) rfl rfl) rfl rfl ?_
     first | refine oQ (Is0 rfl rfl rfl rfl rfl rfl) rfl rfl ?_ | refine oQ (Is1 rfl rfl rfl rfl rfl rfl) rfl rfl ?_
     refine oQ (Ld rfl rfl rfl rfl) rfl rfl ?_
     refine oQ (Q_binu rfl rfl rfl (by omega)) rfl rfl ?_
     first | refine oQ (Is0 rfl rfl rfl rfl rfl rfl) rfl rfl ?_ | refine oQ (Is1 rfl rfl rfl rfl rfl rfl) rfl rfl ?_
     refine oS rfl rfl rfl rfl rfl ?_
     refine OW_nil ?_
     all_goals first | with_reducible refine bN ?_ | with_reducible refine bE ?_ | with_reducible refine bR ?_ | refine bX rfl ?_
     all_goals with_reducible refine tN ?_
     all_goals (
      refine CW_region ?_
      first | refine oQ (Q_binu rfl rfl rfl (by omega)) rfl rfl ?_ | refine oQ (Q_bin rfl rfl rfl) rfl rfl ?_
      refine oM rfl rfl ?_
      refine OW_nil ?_))
  all_goals first
    | with_reducible refine tR ?_
    | with_reducible refine tE ?_
    | (
     with_reducible refine tN ?_
     refine ⟨i + 1, ?_, ?_, View.mk' [] rfl rfl rfl ?_ ?_⟩
     · omega
     · omega
     all_goals (repeat' first | exact vFn | refine vFc rfl ?_ | exact vHn | refine vHc rfl ?_ | refine vFc (congrArg (fun z => some (V.int z)) ?_) ?_ | refine vHc (congrArg (fun z => some (Blk.ints _ z)) ?_) ?_ | refine vFc (congrArg (fun z => some (V.bool z)) ?_) ?_ | refine vFs rfl rfl ?_ ?_)
     all_goals try dsimp only
     all_goals rw [secTo_snoc (by omega), takeS (by omega)])
  all_goals first | with_reducible refine bN ?_ | with_reducible refine bE ?_ | with_reducible refine bR ?_ | refine bX rfl ?_
  all_goals with_reducible refine tN ?_
  all_goals (
   refine cR ?_
   refine oM rfl rfl ?_
   refine oA rfl rfl ?_
   refine oN ?_
   refine CW_ret ?_)
  all_goals (
   have e : i = (allPts p).length := by omega
   subst e
   exact exitH (r0 := .slice 1 0 (n + 2) (n + 2)) (H0 := [(0, .ints 49 (L.flatten ++ sp)), (1, .ints 2 (secTo p L ((allPts p).take (allPts p).length)))]) (.inr rfl) [] 2 (.cons (.tmp rfl rfl) .nil) rfl rfl rfl (vHc rfl (vHc rfl vHn)) rfl rfl ⟨by rw [hn2], by rw [List.take_length]; rfl⟩)
theorem secants_nil (p : Int)  (hp : primeB p = true) : Con Try.prog [] 65 [.int p, .nilsl] [] (fun r H' => r = .slice 0 0 (p + 2).toNat (p + 2).toNat ∧ H' = [(0, .ints 2 (secV p ([] : List (List Int))))]) := by
  obtain ⟨n, hpn, hn⟩ := of_prime hp
  have hpb := prime_bd hp
  have hn2 : (p + 2).toNat = n + 2 := by omega
  have hal := allPts_len hp
  have h3a : ∀ x ∈ (allPts p), x.length = 3 := fun x hx => allPts_three hx
  have hfa := flat3 h3a
  refine conW tab_ok [(0, .int p), (1, .nilsl)] 0 [] [] Try.func65 rfl rfl rfl rfl rfl rfl rfl rfl rfl ?_
  refine cR ?_
  refine oA rfl rfl ?_
  refine oN ?_
  refine cR ?_
  refine oM rfl rfl ?_
  refine oQ (Q_binu (z := ((n + 2 : Nat) : Int)) rfl rfl (congrArg some (by omega)) (by omega)) rfl rfl ?_
  refine oMk rfl rfl rfl ⟨by decide, rfl, .inl ⟨rfl, rfl⟩⟩ rfl rfl rfl (by first | omega | (dsimp only; omega) | (simp; omega) | (simp; done)) (by first | omega | (dsimp only; omega) | (simp; omega) | (simp; done)) (by first | omega | (dsimp only; omega) | (simp; omega) | (simp; done)) rfl rfl ?_
  refine oA rfl rfl ?_
  refine oN ?_
  refine CW_seq ?_
  refine cR ?_
  refine oM rfl rfl ?_
  refine oCall (allPoints_con p hp) [] 1 rfl rfl (Fits.mk' vHn rfl rfl (by simp)) rfl rfl ?_
  rintro r H1 ⟨k0, sp0, hk0, hsp0, rfl, rfl⟩
  refine ⟨.slice 1 0 (allPts p).length k0, [(1, .ints 49 ((allPts p).flatten ++ sp0))], rfl, rfl, rfl, ?_⟩
  first | refine oQ (Q_len rfl rfl rfl rfl) rfl rfl ?_ | refine oQ (Q_len0 rfl rfl rfl rfl) rfl rfl ?_
  refine oM rfl rfl ?_
  refine oN ?_
  refine CW_block ?_
  refine CW_loop (ι := Nat) (fun i => i ≤ (allPts p).length) (fun i => ⟨[(0, .int p), (1, .nilsl), (5, .slice 0 0 (n + 2) (n + 2)), (12, .slice 1 0 (allPts p).length k0), (13, .int ((allPts p).length : Nat)), (14, .int (i : Nat))], [(0, .ints 2 (secTo p ([] : List (List Int)) ((allPts p).take i))), (1, .ints 49 ((allPts p).flatten ++ sp0))], 2⟩) (fun i => (allPts p).length - i) 0 ?_ ?_ ?_
  · first | trivial | omega | (simp; done) | (simp; omega)
  · refine View.mk' [] rfl rfl rfl ?_ ?_
    repeat' first | exact vFn | refine vFc rfl ?_ | exact vHn | refine vHc rfl ?_ | refine vFc (congrArg (fun z => some (V.int z)) ?_) ?_ | refine vHc (congrArg (fun z => some (Blk.ints _ z)) ?_) ?_ | refine vFc (congrArg (fun z => some (V.bool z)) ?_) ?_ | refine vFs rfl rfl ?_ ?_
    all_goals rw [List.take_zero, secTo_nil, Nat.mul_one, hn2]
  intro i hi
  have hmem := fun h : i < (allPts p).length => getD_mem h
  have h3i := fun h : i < (allPts p).length => h3a _ (getD_mem h)
  have hsl : (secTo p ([] : List (List Int)) ((allPts p).take i)).length = n + 2 := (secTo_length _ _ _).trans hn2
  have hct := fun h : i < (allPts p).length => (show cntOn p ([] : List (List Int)) ((allPts p).getD i []) < n + 2 by simp [cntOn])
  have hse := fun q => secTo_le (p := p) (L := ([] : List (List Int))) (K := (allPts p).take i) q
  have htk : ((allPts p).take i).length ≤ 183 := by rw [List.length_take]; omega
  refine cR ?_
  refine oQ (Q_bin rfl rfl rfl) rfl rfl ?_
  refine oN ?_
  refine CW_seq ?_
  first | refine cT rfl ?_ | refine cF rfl ?_ | refine CW_cond rfl (fun hc => ?_) (fun hc => ?_)
  all_goals try simp only [s1, s2, s3, s4, s5, s6, s7, s8, s9, s10, s11, s12] at hc
  all_goals first
    | (
     refine CW_skip ?_)
    | (
     refine CW_exit ?_)
  all_goals first
    | with_reducible refine tR ?_
    | with_reducible refine tE ?_
    | (
     with_reducible refine tN ?_
     refine CW_seq ?_
     refine CW_block ?_
     refine cR ?_
     (have h3i := h3i (by omega)); (have hmem := hmem (by omega)); (have hct := hct (by omega)); (have hse := hse (cntOn p ([] : List (List Int)) ((allPts p).getD i []))); refine oQ (Q_ixs0z 3 rfl rfl rfl rfl rfl rfl (by omega)) rfl rfl ?_
     refine oQ (Q_lda (n := 3) rfl rfl rfl rfl rfl (by rw [List.length_append, hfa]; omega)) rfl rfl ?_; rw [flat_get h3a (show i < (allPts p).length by omega)]
     refine oAlloc rfl rfl rfl rfl rfl rfl rfl ?_
     first | refine oSw rfl rfl rfl rfl ?_ | refine oSa rfl rfl rfl rfl ?_
     refine oN ?_
     refine CW_region ?_
     iterate 3 refine oM rfl rfl ?_
     refine oQ (Q_ldw rfl rfl rfl rfl h3i) rfl rfl ?_
     refine oQ (Q_call0 (onLine_nil p _ hp hmem) rfl rfl rfl) rfl rfl ?_
     first | refine oQ (Is0 rfl rfl rfl rfl rfl rfl) rfl rfl ?_ | refine oQ (Is1 rfl rfl rfl rfl rfl rfl) rfl rfl ?_
     refine oQ (Ld rfl rfl rfl rfl) rfl rfl ?_
     refine oQ (Q_binu rfl rfl rfl (by omega)) rfl rfl ?_
     first | refine oQ (Is0 rfl rfl rfl rfl rfl rfl) rfl rfl ?_ | refine oQ (Is1 rfl rfl rfl rfl rfl rfl) rfl rfl ?_
     refine oS rfl rfl rfl rfl rfl ?_
     refine OW_nil ?_
     all_goals first | with_reducible refine bN ?_ | with_reducible refine bE ?_ | with_reducible refine bR ?_ | refine bX rfl ?_
     all_goals with_reducible refine tN ?_
     all_goals (
      refine CW_region ?_
      first | refine oQ (Q_binu rfl rfl rfl (by omega)) rfl rfl ?_ | refine oQ (Q_bin rfl rfl rfl) rfl rfl ?_
      refine oM rfl rfl ?_
      refine OW_nil ?_))
  all_goals first
    | with_reducible refine tR ?_
    | with_reducible refine tE ?_
    | (
     with_reducible refine tN ?_
     refine ⟨i + 1, ?_, ?_, View.mk' [] rfl rfl rfl ?_ ?_⟩
     · omega
     · omega
     all_goals (repeat' first | exact vFn | refine vFc rfl ?_ | exact vHn | refine vHc rfl ?_ | refine vFc (congrArg (fun z => some (V.int z)) ?_) ?_ | refine vHc (congrArg (fun z => some (Blk.ints _ z)) ?_) ?_ | refine vFc (congrArg (fun z => some (V.bool z)) ?_) ?_ | refine vFs rfl rfl ?_ ?_)
     all_goals try dsimp only
     all_goals rw [secTo_snoc (by omega), takeS (by omega)])
  all_goals first | with_reducible refine bN ?_ | with_reducible refine bE ?_ | with_reducible refine bR ?_ | refine bX rfl ?_
  all_goals with_reducible refine tN ?_
  all_goals (
   refine cR ?_
   refine oM rfl rfl ?_
   refine oA rfl rfl ?_
   refine oN ?_
   refine CW_ret ?_)
  all_goals (
   have e : i = (allPts p).length := by omega
   subst e
   exact exitH (r0 := .slice 0 0 (n + 2) (n + 2)) (H0 := [(0, .ints 2 (secTo p ([] : List (List Int)) ((allPts p).take (allPts p).length)))]) (.inr rfl) [] 1 (.cons (.tmp rfl rfl) .nil) rfl rfl rfl (vHc rfl vHn) rfl rfl ⟨by rw [hn2], by rw [List.take_length]; rfl⟩)
theorem l07Numbers_con (p : Int) (L : List (List Int)) (sp : List Int) (k : Nat) (h3 : ∀ x ∈ L, x.length = 3) (hS : setC p L = 0) : Con Try.prog [] 64 [.int p, .slice 0 0 L.length k] [(0, .ints 49 (L.flatten ++ sp))] (fun r H' => r = .slice 1 0 (p + 2).toNat (p + 2).toNat ∧ H' = [(0, .ints 49 (L.flatten ++ sp)), (1, .ints 2 (secV p L))]) := by
  obtain ⟨hp, hv, _, hn60⟩ := setC_zero hS
  obtain ⟨n, hpn, hn⟩ := of_prime hp
  have hpb := prime_bd hp
  have hn2 : (p + 2).toNat = n + 2 := by omega
  have hal := allPts_len hp
  have h3a : ∀ x ∈ (allPts p), x.length = 3 := fun x hx => allPts_three hx
  have hfa := flat3 h3a
  refine conW tab_ok [(0, .int p), (1, .slice 0 0 L.length k)] 1 [0] [0] Try.func64 rfl rfl rfl rfl rfl rfl rfl rfl rfl ?_
  refine cR ?_
  refine oA rfl rfl ?_
  refine oN ?_
  refine CW_seq ?_
  refine CW_any (fun _ => false) 7 rfl lateOk (by decide +kernel) (fun hst => ?_)
  refine aP 0 hst rfl rfl (by decide +kernel) (PX_move rfl rfl) rfl rfl ?_
  refine aP 2 hst rfl rfl (by decide +kernel) (PX_move rfl rfl) rfl rfl ?_
  refine aP 3 hst rfl rfl (by decide +kernel) (PX_binu (z := ((n + 2 : Nat) : Int)) rfl rfl (congrArg some (by omega)) (by omega)) rfl rfl ?_
  refine AW_two (i := 1) (j := 4) (by decide +kernel) ?_ ?_
  all_goals first
    | (
     refine gCall rfl rfl (l01Points_con p hp) [] 1 rfl rfl (Fits.mk' vHn rfl rfl (by simp)) rfl rfl rfl ?_
     rintro r H1 ⟨k0, sp0, hk0, hsp0, rfl, rfl⟩
     refine ⟨.slice 1 0 (allPts p).length k0, [(1, .ints 49 ((allPts p).flatten ++ sp0))], rfl, keep_pre _ _, rfl, rfl, ?_⟩
     refine aQ 5 hst rfl rfl (by decide +kernel) (QX_of (Q_assign rfl rfl) NE_assign) rfl rfl ?_
     refine AW_one (i := 4) (by decide +kernel) ?_
     refine gMk rfl rfl rfl rfl rfl ⟨by decide, rfl, .inl ⟨rfl, rfl⟩⟩ rfl rfl rfl (by first | omega | (dsimp only; omega) | (simp; omega) | (simp; done)) (by first | omega | (dsimp only; omega) | (simp; omega) | (simp; done)) (by first | omega | (dsimp only; omega) | (simp; omega) | (simp; done)) rfl rfl ?_
     refine aQ 6 hst rfl rfl (by decide +kernel) (QX_of (Q_assign rfl rfl) NE_assign) rfl rfl ?_
     refine AW_done (by decide +kernel) ?_)
    | (
     refine gMk rfl rfl rfl rfl rfl ⟨by decide, rfl, .inl ⟨rfl, rfl⟩⟩ rfl rfl rfl (by first | omega | (dsimp only; omega) | (simp; omega) | (simp; done)) (by first | omega | (dsimp only; omega) | (simp; omega) | (simp; done)) (by first | omega | (dsimp only; omega) | (simp; omega) | (simp; done)) rfl rfl ?_
     refine AW_one (i := 1) (by decide +kernel) ?_
     refine gCall rfl rfl (l01Points_con p hp) [] 1 rfl rfl (Fits.mk' vHn rfl rfl (by simp)) rfl rfl rfl ?_
     rintro r H1 ⟨k0, sp0, hk0, hsp0, rfl, rfl⟩
     refine ⟨.slice 2 0 (allPts p).length k0, [(2, .ints 49 ((allPts p).flatten ++ sp0))], rfl, keep_pre _ _, rfl, rfl, ?_⟩
     refine aQ 5 hst rfl rfl (by decide +kernel) (QX_of (Q_assign rfl rfl) NE_assign) rfl rfl ?_
     refine aQ 6 hst rfl rfl (by decide +kernel) (QX_of (Q_assign rfl rfl) NE_assign) rfl rfl ?_
     refine AW_done (by decide +kernel) ?_)
  all_goals with_reducible refine tN ?_
  all_goals (
   refine CW_seq ?_
   refine cR ?_
   refine oA rfl rfl ?_
   refine oN ?_
   refine CW_block ?_
   refine CW_loop (ι := Nat) (fun i => i ≤ (allPts p).length) (fun i => ⟨[(0, .int p), (1, .slice 0 0 L.length k), (5, .slice 1 0 (allPts p).length k0), (6, .slice 2 0 (n + 2) (n + 2)), (7, .int (i : Nat))], [(0, .ints 49 (L.flatten ++ sp)), (1, .ints 49 ((allPts p).flatten ++ sp0)), (2, .ints 2 (secTo p L ((allPts p).take i)))], 3⟩) (fun i => (allPts p).length - i) 0 ?_ ?_ ?_
   · first | trivial | omega | (simp; done) | (simp; omega)
   · first
       | (refine View.mk' [] rfl rfl rfl ?_ ?_
          repeat' first | exact vFn | refine vFc rfl ?_ | exact vHn | refine vHc rfl ?_ | refine vFc (congrArg (fun z => some (V.int z)) ?_) ?_ | refine vHc (congrArg (fun z => some (Blk.ints _ z)) ?_) ?_ | refine vFc (congrArg (fun z => some (V.bool z)) ?_) ?_ | refine vFs rfl rfl ?_ ?_
          all_goals rw [List.take_zero, secTo_nil, Nat.mul_one, hn2]
          done)
       | (refine View.mk' [(1, 2), (2, 1)] rfl rfl rfl ?_ ?_
          repeat' first | exact vFn | refine vFc rfl ?_ | exact vHn | refine vHc rfl ?_ | refine vFc (congrArg (fun z => some (V.int z)) ?_) ?_ | refine vHc (congrArg (fun z => some (Blk.ints _ z)) ?_) ?_ | refine vFc (congrArg (fun z => some (V.bool z)) ?_) ?_ | refine vFs rfl rfl ?_ ?_
          all_goals rw [List.take_zero, secTo_nil, Nat.mul_one, hn2]
          done)
   intro i hi
   have hmem := fun h : i < (allPts p).length => getD_mem h
   have h3i := fun h : i < (allPts p).length => h3a _ (getD_mem h)
   have hsl : (secTo p L ((allPts p).take i)).length = n + 2 := (secTo_length _ _ _).trans hn2
   have hct := fun h : i < (allPts p).length => (show cntOn p L ((allPts p).getD i []) < n + 2 by have := set_count h3 hS (getD_mem h); omega)
   have hse := fun q => secTo_le (p := p) (L := L) (K := (allPts p).take i) q
   have htk : ((allPts p).take i).length ≤ 183 := by rw [List.length_take]; omega
   refine CW_seq ?_
   refine cR ?_
   iterate 2 refine oM rfl rfl ?_
   first | refine oQ (Q_len rfl rfl rfl rfl) rfl rfl ?_ | refine oQ (Q_len0 rfl rfl rfl rfl) rfl rfl ?_
   refine oQ (Q_bin rfl rfl rfl) rfl rfl ?_
   refine oN ?_
   first | refine cT rfl ?_ | refine cF rfl ?_ | refine CW_cond rfl (fun hc => ?_) (fun hc => ?_)
   all_goals try simp only [s1, s2, s3, s4, s5, s6, s7, s8, s9, s10, s11, s12] at hc
   all_goals first
     | (
      refine CW_skip ?_)
     | (
      refine CW_exit ?_)
   all_goals first
     | with_reducible refine tR ?_
     | with_reducible refine tE ?_
     | (
      with_reducible refine tN ?_
      refine CW_seq ?_
      refine CW_block ?_
      refine CW_region ?_
      iterate 5 refine oM rfl rfl ?_
      (have h3i := h3i (by omega)); (have hmem := hmem (by omega)); (have hct := hct (by omega)); (have hse := hse (cntOn p L ((allPts p).getD i []))); refine oQ (Q_ixs0z 3 rfl rfl rfl rfl rfl rfl (by omega)) rfl rfl ?_
      refine oQ (Q_lda (n := 3) rfl rfl rfl rfl rfl (by rw [List.length_append, hfa]; omega)) rfl rfl ?_; rw [flat_get h3a (show i < (allPts p).length by omega)]
      refine oQ (Q_call (l07Count_con p L sp k h3 _ hS hmem) [] rfl rfl (Fits.mk' (vHc rfl vHn) rfl rfl (by simp)) rfl rfl) rfl rfl ?_
      first | refine oQ (Is0 rfl rfl rfl rfl rfl rfl) rfl rfl ?_ | refine oQ (Is1 rfl rfl rfl rfl rfl rfl) rfl rfl ?_
      refine oQ (Ld rfl rfl rfl rfl) rfl rfl ?_
      refine oQ (Q_binu rfl rfl rfl (by omega)) rfl rfl ?_
      first | refine oQ (Is0 rfl rfl rfl rfl rfl rfl) rfl rfl ?_ | refine oQ (Is1 rfl rfl rfl rfl rfl rfl) rfl rfl ?_
      refine oS rfl rfl rfl rfl rfl ?_
      refine OW_nil ?_
      all_goals first | with_reducible refine bN ?_ | with_reducible refine bE ?_ | with_reducible refine bR ?_ | refine bX rfl ?_
      all_goals with_reducible refine tN ?_
      all_goals (
       refine CW_region ?_
       refine oM rfl rfl ?_
       first | refine oQ (Q_binu rfl rfl rfl (by omega)) rfl rfl ?_ | refine oQ (Q_bin rfl rfl rfl) rfl rfl ?_
       refine oA rfl rfl ?_
       refine OW_nil ?_))
   all_goals first
     | with_reducible refine tR ?_
     | with_reducible refine tE ?_
     | (
      with_reducible refine tN ?_
      refine ⟨i + 1, ?_, ?_, View.mk' [] rfl rfl rfl ?_ ?_⟩
      · omega
      · omega
      all_goals (repeat' first | exact vFn | refine vFc rfl ?_ | exact vHn | refine vHc rfl ?_ | refine vFc (congrArg (fun z => some (V.int z)) ?_) ?_ | refine vHc (congrArg (fun z => some (Blk.ints _ z)) ?_) ?_ | refine vFc (congrArg (fun z => some (V.bool z)) ?_) ?_ | refine vFs rfl rfl ?_ ?_)
      all_goals try dsimp only
      all_goals rw [secTo_snoc (by omega), takeS (by omega)])
   all_goals first | with_reducible refine bN ?_ | with_reducible refine bE ?_ | with_reducible refine bR ?_ | refine bX rfl ?_
   all_goals with_reducible refine tN ?_
   all_goals (
    refine cR ?_
    refine oM rfl rfl ?_
    refine oA rfl rfl ?_
    refine oN ?_
    refine CW_ret ?_))
  all_goals (
   have e : i = (allPts p).length := by omega
   subst e
   exact exitH (r0 := .slice 1 0 (n + 2) (n + 2)) (H0 := [(0, .ints 49 (L.flatten ++ sp)), (1, .ints 2 (secTo p L ((allPts p).take (allPts p).length)))]) (.inr rfl) [(1, 2)] 2 (.cons (.tmp rfl rfl) .nil) rfl rfl rfl (vHc rfl (vHc rfl vHn)) rfl rfl ⟨by rw [hn2], by rw [List.take_length]; rfl⟩)
theorem isBlocking_con (p : Int) (L : List (List Int)) (sp : List Int) (k : Nat) (h3 : ∀ x ∈ L, x.length = 3) (hS : setC p L = 0) : ConQ Try.prog [] 63 [.int p, .slice 0 0 L.length k] [(0, .ints 49 (L.flatten ++ sp))] (.bool (blkB p L)) := by
  have hp := (setC_zero hS).1
  have hsl : (secV p L).length = (p + 2).toNat := secTo_length p _ _
  have hpb := prime_bd hp
  refine conW tab_ok [(0, .int p), (1, .slice 0 0 L.length k)] 1 [0] [0] Try.func63 rfl rfl rfl rfl rfl rfl rfl rfl rfl ?_
  refine cR ?_
  refine oA rfl rfl ?_
  refine oN ?_
  refine cR ?_
  iterate 2 refine oM rfl rfl ?_
  refine oCall (secants_con p L sp k h3 hS) [] 2 rfl rfl (Fits.mk' (vHc rfl vHn) rfl rfl (by simp)) rfl rfl ?_
  rintro r H1 ⟨rfl, rfl⟩
  refine ⟨.slice 2 0 (p + 2).toNat (p + 2).toNat, [(0, .ints 49 (L.flatten ++ sp)), (2, .ints 2 (secV p L))], rfl, rfl, rfl, ?_⟩
  first | refine oQ (Is0 rfl rfl rfl rfl rfl rfl) rfl rfl ?_ | refine oQ (Is1 rfl rfl rfl rfl rfl rfl) rfl rfl ?_
  refine oQ (Ld rfl rfl rfl rfl) rfl rfl ?_
  refine oQ (Q_bin rfl rfl rfl) rfl rfl ?_
  refine oA rfl rfl ?_
  refine oN ?_
  refine CW_ret ?_
  all_goals (
   refine exitQ (.inr rfl) 1 (.cons (.tmp rfl rfl) .nil) ?_ rfl (vHc rfl vHn) rfl rfl
   rfl)
theorem isBlocking_nil (p : Int)  (hp : primeB p = true) : ConQ Try.prog [] 63 [.int p, .nilsl] [] (.bool (blkB p ([] : List (List Int)))) := by
  have hsl : (secV p ([] : List (List Int))).length = (p + 2).toNat := secTo_length p _ _
  have hpb := prime_bd hp
  refine conW tab_ok [(0, .int p), (1, .nilsl)] 0 [] [] Try.func63 rfl rfl rfl rfl rfl rfl rfl rfl rfl ?_
  refine cR ?_
  refine oA rfl rfl ?_
  refine oN ?_
  refine cR ?_
  iterate 2 refine oM rfl rfl ?_
  refine oCall (secants_nil p hp) [] 1 rfl rfl (Fits.mk' vHn rfl rfl (by simp)) rfl rfl ?_
  rintro r H1 ⟨rfl, rfl⟩
  refine ⟨.slice 0 0 (p + 2).toNat (p + 2).toNat, [(0, .ints 2 (secV p ([] : List (List Int))))], rfl, rfl, rfl, ?_⟩
  first | refine oQ (Is0 rfl rfl rfl rfl rfl rfl) rfl rfl ?_ | refine oQ (Is1 rfl rfl rfl rfl rfl rfl) rfl rfl ?_
  refine oQ (Ld rfl rfl rfl rfl) rfl rfl ?_
  refine oQ (Q_bin rfl rfl rfl) rfl rfl ?_
  refine oA rfl rfl ?_
  refine oN ?_
  refine CW_ret ?_
  all_goals (
   refine exitQ (.inr rfl) 0 (.cons (.tmp rfl rfl) .nil) ?_ rfl vHn rfl rfl
   rfl)
theorem l07Blocking_con (p : Int) (L : List (List Int)) (sp : List Int) (k : Nat) (h3 : ∀ x ∈ L, x.length = 3) (hS : setC p L = 0) : ConQ Try.prog [] 62 [.int p, .slice 0 0 L.length k] [(0, .ints 49 (L.flatten ++ sp))] (.bool (blkB p L)) := by
  have hp := (setC_zero hS).1
  have hsl : (secV p L).length = (p + 2).toNat := secTo_length p _ _
  have hpb := prime_bd hp
  refine conW tab_ok [(0, .int p), (1, .slice 0 0 L.length k)] 1 [0] [0] Try.func62 rfl rfl rfl rfl rfl rfl rfl rfl rfl ?_
  refine cR ?_
  refine oA rfl rfl ?_
  refine oN ?_
  refine cR ?_
  iterate 2 refine oM rfl rfl ?_
  refine oCall (l07Numbers_con p L sp k h3 hS) [] 2 rfl rfl (Fits.mk' (vHc rfl vHn) rfl rfl (by simp)) rfl rfl ?_
  rintro r H1 ⟨rfl, rfl⟩
  refine ⟨.slice 2 0 (p + 2).toNat (p + 2).toNat, [(0, .ints 49 (L.flatten ++ sp)), (2, .ints 2 (secV p L))], rfl, rfl, rfl, ?_⟩
  first | refine oQ (Is0 rfl rfl rfl rfl rfl rfl) rfl rfl ?_ | refine oQ (Is1 rfl rfl rfl rfl rfl rfl) rfl rfl ?_
  refine oQ (Ld rfl rfl rfl rfl) rfl rfl ?_
  refine oQ (Q_bin rfl rfl rfl) rfl rfl ?_
  refine oA rfl rfl ?_
  refine oN ?_
  refine CW_ret ?_
  all_goals (
   refine exitQ (.inr rfl) 1 (.cons (.tmp rfl rfl) .nil) ?_ rfl (vHc rfl vHn) rfl rfl
   rfl)
theorem impl_IsBlocking_con (p : Int) (L : List (List Int)) (sp : List Int) (k : Nat) (h3 : ∀ x ∈ L, x.length = 3) (hn9 : L.length ≤ 1000000000) : ConQ Try.prog [] 26 [.int p, .slice 0 0 L.length k] [(0, .ints 49 (L.flatten ++ sp))] (.tuple [.bool (blkV p L), .int (setC p L)]) := by
  refine conW tab_ok [(0, .int p), (1, .slice 0 0 L.length k)] 1 [0] [0] Try.func26 rfl rfl rfl rfl rfl rfl rfl rfl rfl ?_
  refine cR ?_
  iterate 2 refine oA rfl rfl ?_
  refine oN ?_
  refine CW_seq ?_
  refine cR ?_
  iterate 2 refine oM rfl rfl ?_
  refine oQ (Q_call (setCode_con p L sp k h3 hn9) [] rfl rfl (Fits.mk' (vHc rfl vHn) rfl rfl (by simp)) rfl rfl) rfl rfl ?_
  refine oA rfl rfl ?_
  refine oN ?_
  refine cR ?_
  refine oM rfl rfl ?_
  refine oQ (Q_bin rfl rfl rfl) rfl rfl ?_
  refine oN ?_
  first | refine cT rfl ?_ | refine cF rfl ?_ | refine CW_cond rfl (fun hc => ?_) (fun hc => ?_)
  all_goals try simp only [s1, s2, s3, s4, s5, s6, s7, s8, s9, s10, s11, s12] at hc
  all_goals first
    | (
     refine CW_skip ?_)
    | (
     refine cR ?_
     refine oM rfl rfl ?_
     iterate 2 refine oA rfl rfl ?_
     refine oN ?_
     refine CW_ret ?_)
  all_goals first
    | with_reducible refine tR ?_
    | with_reducible refine tE ?_
    | (
     with_reducible refine tN ?_
     refine cR ?_
     iterate 2 refine oM rfl rfl ?_
     refine oQ (Q_call (isBlocking_con p L sp k h3 hc) [] rfl rfl (Fits.mk' (vHc rfl vHn) rfl rfl (by simp)) rfl rfl) rfl rfl ?_
     iterate 2 refine oA rfl rfl ?_
     refine oN ?_
     refine CW_ret ?_)
  all_goals (
   refine exitQ (.inr rfl) 1 (.cons (.tmp rfl rfl) (.cons (.tmp rfl rfl) .nil)) ?_ rfl (vHc rfl vHn) rfl rfl
   first
     | exact tup_bv (show false = blkV p L from (if_neg hc).symm)
     | ((have hc' : setC p L = 0 := hc); (have := tup_bv (c := setC p L) (show blkB p L = blkV p L from (if_pos hc').symm)); rw [hc'] at this ⊢; exact this))
theorem impl_IsBlocking_nil (p : Int) : ConQ Try.prog [] 26 [.int p, .nilsl] [] (.tuple [.bool (blkV p ([] : List (List Int))), .int (setC p ([] : List (List Int)))]) := by
  refine conW tab_ok [(0, .int p), (1, .nilsl)] 0 [] [] Try.func26 rfl rfl rfl rfl rfl rfl rfl rfl rfl ?_
  refine cR ?_
  iterate 2 refine oA rfl rfl ?_
  refine oN ?_
  refine CW_seq ?_
  refine cR ?_
  iterate 2 refine oM rfl rfl ?_
  refine oQ (Q_call0 (setCode_nil p ) rfl rfl rfl) rfl rfl ?_
  refine oA rfl rfl ?_
  refine oN ?_
  refine cR ?_
  refine oM rfl rfl ?_
  refine oQ (Q_bin rfl rfl rfl) rfl rfl ?_
  refine oN ?_
  first | refine cT rfl ?_ | refine cF rfl ?_ | refine CW_cond rfl (fun hc => ?_) (fun hc => ?_)
  all_goals try simp only [s1, s2, s3, s4, s5, s6, s7, s8, s9, s10, s11, s12] at hc
  all_goals first
    | (
     refine CW_skip ?_)
    | (
     refine cR ?_
     refine oM rfl rfl ?_
     iterate 2 refine oA rfl rfl ?_
     refine oN ?_
     refine CW_ret ?_)
  all_goals first
    | with_reducible refine tR ?_
    | with_reducible refine tE ?_
    | (
     with_reducible refine tN ?_
     refine cR ?_
     iterate 2 refine oM rfl rfl ?_
     refine oQ (Q_call0 (isBlocking_nil p (setC_zero hc).1) rfl rfl rfl) rfl rfl ?_
     iterate 2 refine oA rfl rfl ?_
     refine oN ?_
     refine CW_ret ?_)
  all_goals (
   refine exitQ (.inr rfl) 0 (.cons (.tmp rfl rfl) (.cons (.tmp rfl rfl) .nil)) ?_ rfl vHn rfl rfl
   first
     | exact tup_bv (show false = blkV p ([] : List (List Int)) from (if_neg hc).symm)
     | ((have hc' : setC p ([] : List (List Int)) = 0 := hc); (have := tup_bv (c := setC p ([] : List (List Int))) (show blkB p ([] : List (List Int)) = blkV p ([] : List (List Int)) from (if_pos hc').symm)); rw [hc'] at this ⊢; exact this))
theorem spec_IsBlocking_con (p : Int) (L : List (List Int)) (sp : List Int) (k : Nat) (h3 : ∀ x ∈ L, x.length = 3) (hn9 : L.length ≤ 1000000000) : ConQ Try.prog [] 25 [.int p, .slice 0 0 L.length k] [(0, .ints 49 (L.flatten ++ sp))] (.tuple [.bool (blkV p L), .int (setC p L)]) := by
  refine conW tab_ok [(0, .int p), (1, .slice 0 0 L.length k)] 1 [0] [0] Try.func25 rfl rfl rfl rfl rfl rfl rfl rfl rfl ?_
  refine cR ?_
  iterate 2 refine oA rfl rfl ?_
  refine oN ?_
  refine CW_seq ?_
  refine cR ?_
  iterate 2 refine oM rfl rfl ?_
  refine oQ (Q_call (l07Code_con p L sp k h3 hn9) [] rfl rfl (Fits.mk' (vHc rfl vHn) rfl rfl (by simp)) rfl rfl) rfl rfl ?_
  refine oA rfl rfl ?_
  refine oN ?_
  refine cR ?_
  refine oM rfl rfl ?_
  refine oQ (Q_bin rfl rfl rfl) rfl rfl ?_
  refine oN ?_
  first | refine cT rfl ?_ | refine cF rfl ?_ | refine CW_cond rfl (fun hc => ?_) (fun hc => ?_)
  all_goals try simp only [s1, s2, s3, s4, s5, s6, s7, s8, s9, s10, s11, s12] at hc
  all_goals first
    | (
     refine CW_skip ?_)
    | (
     refine cR ?_
     refine oM rfl rfl ?_
     iterate 2 refine oA rfl rfl ?_
     refine oN ?_
     refine CW_ret ?_)
  all_goals first
    | with_reducible refine tR ?_
    | with_reducible refine tE ?_
    | (
     with_reducible refine tN ?_
     refine cR ?_
     iterate 2 refine oM rfl rfl ?_
     refine oQ (Q_call (l07Blocking_con p L sp k h3 hc) [] rfl rfl (Fits.mk' (vHc rfl vHn) rfl rfl (by simp)) rfl rfl) rfl rfl ?_
     iterate 2 refine oA rfl rfl ?_
     refine oN ?_
     refine CW_ret ?_)
  all_goals (
   refine exitQ (.inr rfl) 1 (.cons (.tmp rfl rfl) (.cons (.tmp rfl rfl) .nil)) ?_ rfl (vHc rfl vHn) rfl rfl
   first
     | exact tup_bv (show false = blkV p L from (if_neg hc).symm)
     | ((have hc' : setC p L = 0 := hc); (have := tup_bv (c := setC p L) (show blkB p L = blkV p L from (if_pos hc').symm)); rw [hc'] at this ⊢; exact this))
theorem spec_IsBlocking_M (p : Int) (M : List Int) (n k : Nat) (hM : n * 3 ≤ M.length) (hn : n ≤ 1000000000) : ConQ Try.prog [] 25 [.int p, .slice 0 0 n k] [(0, .ints 49 M)] (.tuple [.bool (blkM p M n), .int (setM p M n)]) := by
  have e := chunk_split hM
  have h := spec_IsBlocking_con p (chunk M n) (M.drop (n * 3)) k (chunk_three hM) (by rw [chunk_length]; exact hn)
  rw [chunk_length, ← e] at h
  exact h
theorem impl_IsBlocking_M (p : Int) (M : List Int) (n k : Nat) (hM : n * 3 ≤ M.length) (hn : n ≤ 1000000000) : ConQ Try.prog [] 26 [.int p, .slice 0 0 n k] [(0, .ints 49 M)] (.tuple [.bool (blkM p M n), .int (setM p M n)]) := by
  have e := chunk_split hM
  have h := impl_IsBlocking_con p (chunk M n) (M.drop (n * 3)) k (chunk_three hM) (by rw [chunk_length]; exact hn)
  rw [chunk_length, ← e] at h
  exact h
end Go.Proofs.Ytmcmbpoebhjecaa
