/- The laws of functions of a prime and a list of points. Printed by gen_l14.py. -/
import Derived.Test.YtmcmbpoebhjecaaB5S
import Derived.Test.YtmcmbpoebhjecaaR13
namespace Go.Proofs.Ytmcmbpoebhjecaa
attribute [local irreducible] CW OW QW QOp Con thenP inBlockP
set_option maxRecDepth 10000
set_option linter.unusedSimpArgs false
set_option linter.unusedVariables false
theorem copyPointR_f {t : TypeId} {H0 : Hp} {l : List Int} {n : Nat} {r : V} {H' : Hp} (h : copyPointR t H0 l n false r H') : r = .slice 1 0 n (n + roomN n) ∧ H' = H0 ++ [(1, .ints t (l ++ padS 3 (roomN n)))] := by
  unfold copyPointR at h
  rwa [if_neg (by simp)] at h
theorem copyPointR_t {t : TypeId} {H0 : Hp} {l : List Int} {n : Nat} {r : V} {H' : Hp} (h : copyPointR t H0 l n true r H') : n = 0 ∧ r = .nilsl ∧ H' = H0 ∨ r = .slice 1 0 n (n + roomN n) ∧ H' = H0 ++ [(1, .ints t (l ++ padS 3 (roomN n)))] := by
  unfold copyPointR at h
  split at h
  · rename_i h'; exact .inl ⟨by simpa using h', h.1, h.2⟩
  · exact .inr h
theorem law_FnExactIsCompleteArc_row (p : Int) (l : List Int) (o n k : Nat) (hl : l.length = n * 3) (hn63 : (n : Int) ≤ 9223372036854775807) : ConQ Try.prog [] 10 [.int p, .slice 0 o n k] [(0, .ro o l)] (.bool true) := by
  have hroom := roomN_le n
  have hpl := padS_length 3 (roomN n) (by decide)
  refine conW tab_ok [(0, .int p), (1, .slice 0 o n k)] 1 [0] [] Try.func10 rfl rfl rfl rfl rfl rfl rfl rfl rfl ?_
  refine cR ?_
  refine oA rfl rfl ?_
  refine oN ?_
  refine cR ?_
  refine oA rfl rfl ?_
  refine oN ?_
  refine cR ?_
  iterate 2 refine oM rfl rfl ?_
  refine oQ (Q_call (szPointS_con o n k l 1000000 hn63 rfl) [] rfl rfl (Fits.mk' (vHc rfl vHn) rfl rfl (by simp)) rfl rfl) rfl rfl ?_
  refine oA rfl rfl ?_
  refine oN ?_
  refine CW_seq ?_
  refine cR ?_
  refine oM rfl rfl ?_
  refine oQ (Q_bin rfl rfl rfl) rfl rfl ?_
  refine oN ?_
  first | refine cT rfl ?_ | refine cF rfl ?_ | refine CW_cond rfl (fun hc => ?_) (fun hc => ?_)
  all_goals try simp only [s1, s2, s3, s4, s5, s6, s7, s8, s9, s10, s11, s12] at hc
  all_goals first
    | (
     refine CW_skip ?_)
    | (
     refine cR ?_
     refine oA rfl rfl ?_
     refine oN ?_
     refine CW_ret ?_)
  all_goals first
    | with_reducible refine tR ?_
    | with_reducible refine tE ?_
    | (
     with_reducible refine tN ?_
     refine cR ?_
     iterate 2 refine oM rfl rfl ?_
     (have hn : n ≤ 1000000 := by have hc2 : (0 : Int) ≤ (if (n : Int) ≤ 1000000 then 1000000 - (n : Int) else -1) := hc; split at hc2 <;> omega)
     (have hs := spec_IsCompleteArc_M p (l ++ padS 3 (roomN n)) n (n + roomN n) (by simp <;> omega) (by omega) (by omega))
     (have hi := impl_IsCompleteArc_M p (l ++ padS 3 (roomN n)) n (n + roomN n) (by simp <;> omega) (by omega) (by omega))
     refine oCall (toPointS_row l o n k false hl hn) [] 2 rfl rfl (Fits.mk' (vHc rfl vHn) rfl rfl (by simp)) rfl rfl ?_
     rintro r H1 hR
     obtain ⟨rfl, rfl⟩ := copyPointR_f hR
     refine ⟨.slice 2 0 n (n + roomN n), [(0, .ro o l), (2, .ints 49 (l ++ padS 3 (roomN n)))], rfl, rfl, rfl, ?_⟩
     refine oQ (Q_call hs [(0, 2)] rfl rfl (Fits.mk' (vHc rfl vHn) rfl rfl (by simp)) rfl rfl) rfl rfl ?_
     refine oM rfl rfl ?_
     iterate 2 refine oQ (Q_extract rfl rfl) rfl rfl ?_
     iterate 2 refine oA rfl rfl ?_
     refine oN ?_
     refine cR ?_
     refine oM rfl rfl ?_
     refine oCall (toPointS_row l o n k false hl hn) [] 2 rfl rfl (Fits.mk' (vHc rfl vHn) rfl rfl (by simp)) rfl rfl ?_
     rintro r H1 hR
     obtain ⟨rfl, rfl⟩ := copyPointR_f hR
     refine ⟨.slice 4 0 n (n + roomN n), [(0, .ro o l), (4, .ints 49 (l ++ padS 3 (roomN n)))], rfl, rfl, rfl, ?_⟩
     refine oA rfl rfl ?_
     refine oN ?_
     refine cR ?_
     iterate 2 refine oM rfl rfl ?_
     refine oQ (Q_call hi [(0, 4)] rfl rfl (Fits.mk' (vHc rfl vHn) rfl rfl (by simp)) rfl rfl) rfl rfl ?_
     refine oM rfl rfl ?_
     iterate 2 refine oQ (Q_extract rfl rfl) rfl rfl ?_
     iterate 2 refine oA rfl rfl ?_
     refine oN ?_
     refine CW_seq ?_
     refine cR ?_
     iterate 2 refine oM rfl rfl ?_
     refine oQ (Q_boolb rfl rfl rfl rfl rfl) rfl rfl ?_
     refine oM rfl rfl ?_
     all_goals first | refine oT rfl rfl ?_ | refine o1 rfl rfl rfl ?_ | refine o0 rfl rfl rfl ?_ | refine ogP1 rfl rfl rfl (fun hg => ?_) (fun hg => ?_) | refine ogP0 rfl rfl rfl (fun hg => ?_) (fun hg => ?_)
     all_goals try simp only [s1, s2, s3, s4, s5, s6, s7, s8, s9, s10, s11, s12] at hg
     all_goals first | (refine oM rfl rfl ?_) | skip
     all_goals first | refine oT rfl rfl ?_ | refine o1 rfl rfl rfl ?_ | refine o0 rfl rfl rfl ?_ | refine ogP1 rfl rfl rfl (fun hg => ?_) (fun hg => ?_) | refine ogP0 rfl rfl rfl (fun hg => ?_) (fun hg => ?_)
     all_goals try simp only [s1, s2, s3, s4, s5, s6, s7, s8, s9, s10, s11, s12] at hg
     all_goals first | (refine oM rfl rfl ?_) | skip
     all_goals first | refine oT rfl rfl ?_ | refine o1 rfl rfl rfl ?_ | refine o0 rfl rfl rfl ?_ | refine ogP1 rfl rfl rfl (fun hg => ?_) (fun hg => ?_) | refine ogP0 rfl rfl rfl (fun hg => ?_) (fun hg => ?_)
     all_goals try simp only [s1, s2, s3, s4, s5, s6, s7, s8, s9, s10, s11, s12] at hg
     all_goals first | (refine oQ (Q_bin rfl rfl rfl) rfl rfl ?_) | skip
     all_goals first | refine oQ (Q_pick_t rfl (by with_reducible rfl) rfl rfl) rfl rfl ?_ | refine oQ (Q_pick_f rfl (by with_reducible rfl) rfl rfl) rfl rfl ?_
     all_goals refine oN ?_
     all_goals (
      first | refine cT rfl ?_ | refine cF rfl ?_ | refine CW_cond rfl (fun hc => ?_) (fun hc => ?_)
      all_goals try simp only [s1, s2, s3, s4, s5, s6, s7, s8, s9, s10, s11, s12] at hc
      all_goals first
        | (
         refine CW_skip ?_)
        | (
         refine cR ?_
         refine oA rfl rfl ?_
         refine oN ?_
         refine CW_ret ?_))
     all_goals first
       | with_reducible refine tR ?_
       | with_reducible refine tE ?_
       | (
        with_reducible refine tN ?_
        refine CW_seq ?_
        refine cR ?_
        iterate 2 refine oM rfl rfl ?_
        refine oCall (toPointS_row l o n k false hl hn) [] 2 rfl rfl (Fits.mk' (vHc rfl vHn) rfl rfl (by simp)) rfl rfl ?_
        rintro r H1 hR
        obtain ⟨rfl, rfl⟩ := copyPointR_f hR
        refine ⟨.slice 6 0 n (n + roomN n), [(0, .ro o l), (6, .ints 49 (l ++ padS 3 (roomN n)))], rfl, rfl, rfl, ?_⟩
        refine oQ (Q_call (intactPointS_con 49 49 (l ++ padS 3 (roomN n)) (l ++ padS 3 (roomN n)) n (by rw [List.length_append, hl, hpl, Nat.add_mul]) (by rw [List.length_append, hl, hpl, Nat.add_mul]) (by omega)) [(0, 4), (1, 6)] rfl rfl (Fits.mk' (vHc rfl (vHc rfl vHn)) rfl rfl (by simp)) rfl rfl) rfl rfl ?_
        refine oQ (Q_not rfl) rfl rfl ?_
        refine oN ?_
        first | refine cT rfl ?_ | refine cF rfl ?_ | refine CW_cond rfl (fun hc => ?_) (fun hc => ?_)
        all_goals try simp only [s1, s2, s3, s4, s5, s6, s7, s8, s9, s10, s11, s12] at hc
        all_goals first
          | (
           refine CW_skip ?_)
          | (
           refine cR ?_
           refine oA rfl rfl ?_
           refine oN ?_
           refine CW_ret ?_)
        all_goals first
          | with_reducible refine tR ?_
          | with_reducible refine tE ?_
          | (
           with_reducible refine tN ?_
           refine cR ?_
           iterate 2 refine oM rfl rfl ?_
           refine oCall (toPointS_row l o n k true hl hn) [] 2 rfl rfl (Fits.mk' (vHc rfl vHn) rfl rfl (by simp)) rfl rfl ?_
           rintro r H1 hR
           rcases copyPointR_t hR with ⟨e0, rfl, rfl⟩ | ⟨rfl, rfl⟩
           all_goals first | refine ⟨.nilsl, [(0, .ro o l)], rfl, rfl, rfl, ?_⟩ | refine ⟨.slice 8 0 n (n + roomN n), [(0, .ro o l), (8, .ints 49 (l ++ padS 3 (roomN n)))], rfl, rfl, rfl, ?_⟩
           all_goals first | refine oQ (Q_call0 (impl_IsCompleteArc_nil p) rfl rfl rfl) rfl rfl ?_ | refine oQ (Q_call hi [(0, 8)] rfl rfl (Fits.mk' (vHc rfl vHn) rfl rfl (by simp)) rfl rfl) rfl rfl ?_
           all_goals first | (refine oM rfl rfl ?_)
           all_goals first | (refine oQ (Q_extract rfl rfl) rfl rfl ?_)
           all_goals first | (refine oQ (Q_extract rfl rfl) rfl rfl ?_)
           all_goals first | (refine oA rfl rfl ?_)
           all_goals first | (refine oA rfl rfl ?_)
           all_goals refine oN ?_
           all_goals (
            refine CW_seq ?_
            refine cR ?_
            iterate 2 refine oM rfl rfl ?_
            refine oQ (Q_boolb rfl rfl rfl rfl rfl) rfl rfl ?_
            refine oM rfl rfl ?_
            all_goals first | refine oT rfl rfl ?_ | refine o1 rfl rfl rfl ?_ | refine o0 rfl rfl rfl ?_ | refine ogP1 rfl rfl rfl (fun hg => ?_) (fun hg => ?_) | refine ogP0 rfl rfl rfl (fun hg => ?_) (fun hg => ?_)
            all_goals try simp only [s1, s2, s3, s4, s5, s6, s7, s8, s9, s10, s11, s12] at hg
            all_goals first | (refine oM rfl rfl ?_) | skip
            all_goals first | refine oT rfl rfl ?_ | refine o1 rfl rfl rfl ?_ | refine o0 rfl rfl rfl ?_ | refine ogP1 rfl rfl rfl (fun hg => ?_) (fun hg => ?_) | refine ogP0 rfl rfl rfl (fun hg => ?_) (fun hg => ?_)
            all_goals try simp only [s1, s2, s3, s4, s5, s6, s7, s8, s9, s10, s11, s12] at hg
            all_goals first | (refine oM rfl rfl ?_) | skip
            all_goals first | refine oT rfl rfl ?_ | refine o1 rfl rfl rfl ?_ | refine o0 rfl rfl rfl ?_ | refine ogP1 rfl rfl rfl (fun hg => ?_) (fun hg => ?_) | refine ogP0 rfl rfl rfl (fun hg => ?_) (fun hg => ?_)
            all_goals try simp only [s1, s2, s3, s4, s5, s6, s7, s8, s9, s10, s11, s12] at hg
            all_goals first | (refine oQ (Q_bin rfl rfl rfl) rfl rfl ?_) | skip
            all_goals first | refine oQ (Q_pick_t rfl (by with_reducible rfl) rfl rfl) rfl rfl ?_ | refine oQ (Q_pick_f rfl (by with_reducible rfl) rfl rfl) rfl rfl ?_
            all_goals refine oN ?_
            all_goals (
             first | refine cT rfl ?_ | refine cF rfl ?_ | refine CW_cond rfl (fun hc => ?_) (fun hc => ?_)
             all_goals try simp only [s1, s2, s3, s4, s5, s6, s7, s8, s9, s10, s11, s12] at hc
             all_goals first
               | (
                refine CW_skip ?_)
               | (
                refine cR ?_
                refine oA rfl rfl ?_
                refine oN ?_
                refine CW_ret ?_))
            all_goals first
              | with_reducible refine tR ?_
              | with_reducible refine tE ?_
              | (
               with_reducible refine tN ?_
               refine cR ?_
               refine oA rfl rfl ?_
               refine oN ?_
               refine CW_ret ?_)))))
  all_goals (
   first
     | exact exitQ (.inr rfl) 1 (.cons (.tmp rfl rfl) .nil) rfl rfl (vHc rfl vHn) rfl rfl
     | (exfalso; exact absurd trivial hc)
     | (exfalso; simp_all; done)
     | (exfalso; (try subst e0); exact hc (compM_zero p _).symm)
     | (exfalso; (try subst e0); exact hc (setM_zero p _).symm)
     | (exfalso; (try subst e0); exact hg (compM_zero p _).symm))
theorem law_FnExactIsCompleteArc_nil (p : Int)  : ConQ Try.prog [] 10 [.int p, .nilsl] [] (.bool true) := by
  have hroom := roomN_le 0
  have hpl := padS_length 3 (roomN 0) (by decide)
  refine conW tab_ok [(0, .int p), (1, .nilsl)] 1 [] [] Try.func10 rfl rfl rfl rfl rfl rfl rfl rfl rfl ?_
  refine cR ?_
  refine oA rfl rfl ?_
  refine oN ?_
  refine cR ?_
  refine oA rfl rfl ?_
  refine oN ?_
  refine cR ?_
  iterate 2 refine oM rfl rfl ?_
  refine oQ (Q_call0 (szPointS_nil 1000000 rfl) rfl rfl rfl) rfl rfl ?_
  refine oA rfl rfl ?_
  refine oN ?_
  refine CW_seq ?_
  refine cR ?_
  refine oM rfl rfl ?_
  refine oQ (Q_bin rfl rfl rfl) rfl rfl ?_
  refine oN ?_
  first | refine cT rfl ?_ | refine cF rfl ?_ | refine CW_cond rfl (fun hc => ?_) (fun hc => ?_)
  all_goals try simp only [s1, s2, s3, s4, s5, s6, s7, s8, s9, s10, s11, s12] at hc
  all_goals try (exfalso; first | omega | (simp at hc; done); done)
  all_goals first
    | (
     refine CW_skip ?_)
    | (
     refine cR ?_
     refine oA rfl rfl ?_
     refine oN ?_
     refine CW_ret ?_)
  all_goals first
    | with_reducible refine tR ?_
    | with_reducible refine tE ?_
    | (
     with_reducible refine tN ?_
     refine cR ?_
     iterate 2 refine oM rfl rfl ?_
     (have hn : 0 ≤ 1000000 := by omega)
     (have hs := spec_IsCompleteArc_M p (([] : List Int) ++ padS 3 (roomN 0)) 0 (0 + roomN 0) (by simp <;> omega) (by omega) (by omega))
     (have hi := impl_IsCompleteArc_M p (([] : List Int) ++ padS 3 (roomN 0)) 0 (0 + roomN 0) (by simp <;> omega) (by omega) (by omega))
     refine oCall (toPointS_nil false) [] 2 rfl rfl (Fits.mk' vHn rfl rfl (by simp)) rfl rfl ?_
     rintro r H1 hR
     obtain ⟨rfl, rfl⟩ := copyPointR_f hR
     refine ⟨.slice 2 0 0 (0 + roomN 0), [(2, .ints 49 (([] : List Int) ++ padS 3 (roomN 0)))], rfl, rfl, rfl, ?_⟩
     refine oQ (Q_call hs [(0, 2)] rfl rfl (Fits.mk' (vHc rfl vHn) rfl rfl (by simp)) rfl rfl) rfl rfl ?_
     refine oM rfl rfl ?_
     iterate 2 refine oQ (Q_extract rfl rfl) rfl rfl ?_
     iterate 2 refine oA rfl rfl ?_
     refine oN ?_
     refine cR ?_
     refine oM rfl rfl ?_
     refine oCall (toPointS_nil false) [] 2 rfl rfl (Fits.mk' vHn rfl rfl (by simp)) rfl rfl ?_
     rintro r H1 hR
     obtain ⟨rfl, rfl⟩ := copyPointR_f hR
     refine ⟨.slice 4 0 0 (0 + roomN 0), [(4, .ints 49 (([] : List Int) ++ padS 3 (roomN 0)))], rfl, rfl, rfl, ?_⟩
     refine oA rfl rfl ?_
     refine oN ?_
     refine cR ?_
     iterate 2 refine oM rfl rfl ?_
     refine oQ (Q_call hi [(0, 4)] rfl rfl (Fits.mk' (vHc rfl vHn) rfl rfl (by simp)) rfl rfl) rfl rfl ?_
     refine oM rfl rfl ?_
     iterate 2 refine oQ (Q_extract rfl rfl) rfl rfl ?_
     iterate 2 refine oA rfl rfl ?_
     refine oN ?_
     refine CW_seq ?_
     refine cR ?_
     iterate 2 refine oM rfl rfl ?_
     refine oQ (Q_boolb rfl rfl rfl rfl rfl) rfl rfl ?_
     refine oM rfl rfl ?_
     all_goals first | refine oT rfl rfl ?_ | refine o1 rfl rfl rfl ?_ | refine o0 rfl rfl rfl ?_ | refine ogP1 rfl rfl rfl (fun hg => ?_) (fun hg => ?_) | refine ogP0 rfl rfl rfl (fun hg => ?_) (fun hg => ?_)
     all_goals try simp only [s1, s2, s3, s4, s5, s6, s7, s8, s9, s10, s11, s12] at hg
     all_goals first | (refine oM rfl rfl ?_) | skip
     all_goals first | refine oT rfl rfl ?_ | refine o1 rfl rfl rfl ?_ | refine o0 rfl rfl rfl ?_ | refine ogP1 rfl rfl rfl (fun hg => ?_) (fun hg => ?_) | refine ogP0 rfl rfl rfl (fun hg => ?_) (fun hg => ?_)
     all_goals try simp only [s1, s2, s3, s4, s5, s6, s7, s8, s9, s10, s11, s12] at hg
     all_goals first | (refine oM rfl rfl ?_) | skip
     all_goals first | refine oT rfl rfl ?_ | refine o1 rfl rfl rfl ?_ | refine o0 rfl rfl rfl ?_ | refine ogP1 rfl rfl rfl (fun hg => ?_) (fun hg => ?_) | refine ogP0 rfl rfl rfl (fun hg => ?_) (fun hg => ?_)
     all_goals try simp only [s1, s2, s3, s4, s5, s6, s7, s8, s9, s10, s11, s12] at hg
     all_goals first | (refine oQ (Q_bin rfl rfl rfl) rfl rfl ?_) | skip
     all_goals first | refine oQ (Q_pick_t rfl (by with_reducible rfl) rfl rfl) rfl rfl ?_ | refine oQ (Q_pick_f rfl (by with_reducible rfl) rfl rfl) rfl rfl ?_
     all_goals refine oN ?_
     all_goals (
      first | refine cT rfl ?_ | refine cF rfl ?_ | refine CW_cond rfl (fun hc => ?_) (fun hc => ?_)
      all_goals try simp only [s1, s2, s3, s4, s5, s6, s7, s8, s9, s10, s11, s12] at hc
      all_goals try (exfalso; first | omega | (simp at hc; done); done)
      all_goals first
        | (
         refine CW_skip ?_)
        | (
         refine cR ?_
         refine oA rfl rfl ?_
         refine oN ?_
         refine CW_ret ?_))
     all_goals first
       | with_reducible refine tR ?_
       | with_reducible refine tE ?_
       | (
        with_reducible refine tN ?_
        refine CW_seq ?_
        refine cR ?_
        iterate 2 refine oM rfl rfl ?_
        refine oCall (toPointS_nil false) [] 2 rfl rfl (Fits.mk' vHn rfl rfl (by simp)) rfl rfl ?_
        rintro r H1 hR
        obtain ⟨rfl, rfl⟩ := copyPointR_f hR
        refine ⟨.slice 6 0 0 (0 + roomN 0), [(6, .ints 49 (([] : List Int) ++ padS 3 (roomN 0)))], rfl, rfl, rfl, ?_⟩
        refine oQ (Q_call (intactPointS_con 49 49 (([] : List Int) ++ padS 3 (roomN 0)) (([] : List Int) ++ padS 3 (roomN 0)) 0 (by rw [List.length_append, List.length_nil, hpl, Nat.add_mul]) (by rw [List.length_append, List.length_nil, hpl, Nat.add_mul]) (by omega)) [(0, 4), (1, 6)] rfl rfl (Fits.mk' (vHc rfl (vHc rfl vHn)) rfl rfl (by simp)) rfl rfl) rfl rfl ?_
        refine oQ (Q_not rfl) rfl rfl ?_
        refine oN ?_
        first | refine cT rfl ?_ | refine cF rfl ?_ | refine CW_cond rfl (fun hc => ?_) (fun hc => ?_)
        all_goals try simp only [s1, s2, s3, s4, s5, s6, s7, s8, s9, s10, s11, s12] at hc
        all_goals try (exfalso; first | omega | (simp at hc; done); done)
        all_goals first
          | (
           refine CW_skip ?_)
          | (
           refine cR ?_
           refine oA rfl rfl ?_
           refine oN ?_
           refine CW_ret ?_)
        all_goals first
          | with_reducible refine tR ?_
          | with_reducible refine tE ?_
          | (
           with_reducible refine tN ?_
           refine cR ?_
           iterate 2 refine oM rfl rfl ?_
           refine oCall (toPointS_nil true) [] 2 rfl rfl (Fits.mk' vHn rfl rfl (by simp)) rfl rfl ?_
           rintro r H1 hR
           rcases copyPointR_t hR with ⟨e0, rfl, rfl⟩ | ⟨rfl, rfl⟩
           all_goals first | refine ⟨.nilsl, [], rfl, rfl, rfl, ?_⟩ | refine ⟨.slice 8 0 0 (0 + roomN 0), [(8, .ints 49 (([] : List Int) ++ padS 3 (roomN 0)))], rfl, rfl, rfl, ?_⟩
           all_goals first | refine oQ (Q_call0 (impl_IsCompleteArc_nil p) rfl rfl rfl) rfl rfl ?_ | refine oQ (Q_call hi [(0, 8)] rfl rfl (Fits.mk' (vHc rfl vHn) rfl rfl (by simp)) rfl rfl) rfl rfl ?_
           all_goals first | (refine oM rfl rfl ?_)
           all_goals first | (refine oQ (Q_extract rfl rfl) rfl rfl ?_)
           all_goals first | (refine oQ (Q_extract rfl rfl) rfl rfl ?_)
           all_goals first | (refine oA rfl rfl ?_)
           all_goals first | (refine oA rfl rfl ?_)
           all_goals refine oN ?_
           all_goals (
            refine CW_seq ?_
            refine cR ?_
            iterate 2 refine oM rfl rfl ?_
            refine oQ (Q_boolb rfl rfl rfl rfl rfl) rfl rfl ?_
            refine oM rfl rfl ?_
            all_goals first | refine oT rfl rfl ?_ | refine o1 rfl rfl rfl ?_ | refine o0 rfl rfl rfl ?_ | refine ogP1 rfl rfl rfl (fun hg => ?_) (fun hg => ?_) | refine ogP0 rfl rfl rfl (fun hg => ?_) (fun hg => ?_)
            all_goals try simp only [s1, s2, s3, s4, s5, s6, s7, s8, s9, s10, s11, s12] at hg
            all_goals first | (refine oM rfl rfl ?_) | skip
            all_goals first | refine oT rfl rfl ?_ | refine o1 rfl rfl rfl ?_ | refine o0 rfl rfl rfl ?_ | refine ogP1 rfl rfl rfl (fun hg => ?_) (fun hg => ?_) | refine ogP0 rfl rfl rfl (fun hg => ?_) (fun hg => ?_)
            all_goals try simp only [s1, s2, s3, s4, s5, s6, s7, s8, s9, s10, s11, s12] at hg
            all_goals first | (refine oM rfl rfl ?_) | skip
            all_goals first | refine oT rfl rfl ?_ | refine o1 rfl rfl rfl ?_ | refine o0 rfl rfl rfl ?_ | refine ogP1 rfl rfl rfl (fun hg => ?_) (fun hg => ?_) | refine ogP0 rfl rfl rfl (fun hg => ?_) (fun hg => ?_)
            all_goals try simp only [s1, s2, s3, s4, s5, s6, s7, s8, s9, s10, s11, s12] at hg
            all_goals first | (refine oQ (Q_bin rfl rfl rfl) rfl rfl ?_) | skip
            all_goals first | refine oQ (Q_pick_t rfl (by with_reducible rfl) rfl rfl) rfl rfl ?_ | refine oQ (Q_pick_f rfl (by with_reducible rfl) rfl rfl) rfl rfl ?_
            all_goals refine oN ?_
            all_goals (
             first | refine cT rfl ?_ | refine cF rfl ?_ | refine CW_cond rfl (fun hc => ?_) (fun hc => ?_)
             all_goals try simp only [s1, s2, s3, s4, s5, s6, s7, s8, s9, s10, s11, s12] at hc
             all_goals try (exfalso; first | omega | (simp at hc; done); done)
             all_goals first
               | (
                refine CW_skip ?_)
               | (
                refine cR ?_
                refine oA rfl rfl ?_
                refine oN ?_
                refine CW_ret ?_))
            all_goals first
              | with_reducible refine tR ?_
              | with_reducible refine tE ?_
              | (
               with_reducible refine tN ?_
               refine cR ?_
               refine oA rfl rfl ?_
               refine oN ?_
               refine CW_ret ?_)))))
  all_goals (
   first
     | exact exitQ (.inr rfl) 1 (.cons (.tmp rfl rfl) .nil) rfl rfl vHn rfl rfl
     | (exfalso; exact absurd trivial hc)
     | (exfalso; simp_all; done)
     | (exfalso; (try subst e0); exact hc (compM_zero p _).symm)
     | (exfalso; (try subst e0); exact hc (setM_zero p _).symm)
     | (exfalso; (try subst e0); exact hg (compM_zero p _).symm))
end Go.Proofs.Ytmcmbpoebhjecaa
