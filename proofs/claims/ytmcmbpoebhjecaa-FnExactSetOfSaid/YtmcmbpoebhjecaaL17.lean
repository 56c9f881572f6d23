/- The laws of functions of a prime and a list of points that answer a list. Printed by gen_l17.py. -/
import Derived.Test.YtmcmbpoebhjecaaB5S
import Derived.Test.YtmcmbpoebhjecaaS5
import Derived.Test.YtmcmbpoebhjecaaB6
namespace Go.Proofs.Ytmcmbpoebhjecaa
attribute [local irreducible] CW OW QW QOp Con thenP inBlockP
set_option maxRecDepth 10000
set_option linter.unusedSimpArgs false
set_option linter.unusedVariables false
theorem copyPointR_f {t : TypeId} {H0 : Hp} {l : List Int} {n : Nat} {r : V} {H' : Hp} (h : copyPointR t H0 l n false r H') : r = .slice 1 0 n (n + roomN n) ∧ H' = H0 ++ [(1, .ints t (l ++ padS 3 (roomN n)))] := by
  unfold copyPointR at h
  rwa [if_neg (by simp)] at h
theorem copyPointR_t {t : TypeId} {H0 : Hp} {l : List Int} {n : Nat} {r : V} {H' : Hp} (h : copyPointR t H0 l n true r H') : n = 0 ∧ r = .nilsl ∧ H' = H0 ∨ r = .slice 1 0 n (n + roomN n) ∧ H' = H0 ++ [(1, .ints t (l ++ padS 3 (roomN n)))] := by
  unfold copyPointR at h
  split at h
  · rename_i h'; exact .inl ⟨by simpa using h', h.1, h.2⟩
  · exact .inr h
theorem eqPointS_same (t t' : TypeId) (R sp sp' : List Int) (n k k' : Nat) (hR : R.length = n * 3) (h6 : n ≤ 1000000000) : ConQ Try.prog [] 19 [.slice 0 0 n k, .slice 1 0 n k'] [(0, .ints t (R ++ sp)), (1, .ints t' (R ++ sp'))] (.bool true) := by
  have := eqPointS_con t t' (R ++ sp) (R ++ sp') n k n k' (by simp; omega) (by simp; omega) ⟨h6, h6⟩
  rw [← hR, List.take_left, List.take_left] at this
  simpa using this
theorem sto_three {M : List Int} {n : Nat} (p : Int) (h : n * 3 ≤ M.length) : T3 (stoM p M n) := srt_three (chunk_three h)
theorem law_FnExactSetOf_row (p : Int) (l : List Int) (o n k : Nat) (hl : l.length = n * 3) (hn63 : (n : Int) ≤ 9223372036854775807) : ConQ Try.prog [] 12 [.int p, .slice 0 o n k] [(0, .ro o l)] (.bool true) := by
  have hroom := roomN_le n
  have hpl := padS_length 3 (roomN n) (by decide)
  have hs := fun hn9 : n ≤ 1000000 => spec_SetOf_M p (l ++ padS 3 (roomN n)) n (n + roomN n) (by simp <;> omega) (by omega)
  have hi := fun hn9 : n ≤ 1000000 => impl_SetOf_M p (l ++ padS 3 (roomN n)) n (n + roomN n) (by simp <;> omega) (by omega)
  have hz := impl_SetOf_nil p
  by_cases hcd : stoCM p (l ++ padS 3 (roomN n)) n = 0
  · have hRL : ((stoM p (l ++ padS 3 (roomN n)) n).flatten).length = (stoM p (l ++ padS 3 (roomN n)) n).length * 3 := flat3 (sto_three p (by simp <;> omega))
    have hNb : (stoM p (l ++ padS 3 (roomN n)) n).length ≤ 1000000 := (by have h1 := stoC_len hcd; exact Nat.le_trans h1 (by decide))
    have hz2 : n = 0 → ConQ Try.prog [] 46 [.int p, .nilsl] [] (.tuple [.nilsl, .int (stoCM p (l ++ padS 3 (roomN n)) n)]) := fun e => by subst e; exact hz
    rw [hcd] at hz2
    have hN0 : n = 0 → (stoM p (l ++ padS 3 (roomN n)) n).length = 0 := fun e => by subst e; rfl
    generalize hRR : (stoM p (l ++ padS 3 (roomN n)) n).flatten = RR at *
    refine conW tab_ok [(0, .int p), (1, .slice 0 o n k)] 1 [0] [] Try.func12 rfl rfl rfl rfl rfl rfl rfl rfl rfl ?_
    refine cR ?_
    refine oA rfl rfl ?_
    refine oN ?_
    refine cR ?_
    refine oA rfl rfl ?_
    refine oN ?_
    refine cR ?_
    iterate 2 refine oM rfl rfl ?_
    refine oQ (Q_call (szPointS_con o n k l 1000000 hn63 rfl) [] rfl rfl (Fits.mk' (vHc rfl vHn) rfl rfl (by simp)) rfl rfl) rfl rfl ?_
    refine oA rfl rfl ?_
    refine oN ?_
    refine CW_seq ?_
    refine cR ?_
    refine oM rfl rfl ?_
    refine oQ (Q_bin rfl rfl rfl) rfl rfl ?_
    refine oN ?_
    first | refine cT rfl ?_ | refine cF rfl ?_ | refine CW_cond rfl (fun hc => ?_) (fun hc => ?_)
    all_goals try simp only [s1, s2, s3, s4, s5, s6, s7, s8, s9, s10, s11, s12] at hc
    all_goals try (exfalso; first | omega | (simp at hc; done); done)
    all_goals first
      | (
       refine CW_skip ?_)
      | (
       refine cR ?_
       refine oA rfl rfl ?_
       refine oN ?_
       refine CW_ret ?_)
    all_goals first
      | with_reducible refine tR ?_
      | with_reducible refine tE ?_
      | (
       with_reducible refine tN ?_
       refine cR ?_
       iterate 2 refine oM rfl rfl ?_
       (have hn : n ≤ 1000000 := by have hc2 : (0 : Int) ≤ (if (n : Int) ≤ 1000000 then 1000000 - (n : Int) else -1) := hc; split at hc2 <;> omega)
       (have hs := hs hn)
       (have hi := hi hn)
       refine oCall (toPointS_row l o n k false hl hn) [] 2 rfl rfl (Fits.mk' (vHc rfl vHn) rfl rfl (by simp)) rfl rfl ?_
       rintro r H1 hR
       obtain ⟨rfl, rfl⟩ := copyPointR_f hR
       refine ⟨.slice 2 0 n (n + roomN n), [(0, .ro o l), (2, .ints 49 (l ++ padS 3 (roomN n)))], rfl, rfl, rfl, ?_⟩
       refine oCall (hs) [(0, 2)] 2 rfl rfl (Fits.mk' (vHc rfl vHn) rfl rfl (by simp)) rfl rfl ?_
       rintro r H1 hR
       obtain ⟨k0, sp0, hk0, rfl, rfl⟩ := listO_pos hcd hR
       refine ⟨.tuple [.slice 4 0 (stoM p (l ++ padS 3 (roomN n)) n).length k0, .int 0], [(2, .ints 49 (l ++ padS 3 (roomN n))), (4, .ints 49 (RR ++ sp0))], rfl, rfl, rfl, ?_⟩
       refine oM rfl rfl ?_
       iterate 2 refine oQ (Q_extract rfl rfl) rfl rfl ?_
       iterate 2 refine oA rfl rfl ?_
       refine oN ?_
       refine cR ?_
       refine oM rfl rfl ?_
       refine oCall (toPointS_row l o n k false hl hn) [] 2 rfl rfl (Fits.mk' (vHc rfl vHn) rfl rfl (by simp)) rfl rfl ?_
       rintro r H1 hR
       obtain ⟨rfl, rfl⟩ := copyPointR_f hR
       refine ⟨.slice 6 0 n (n + roomN n), [(0, .ro o l), (6, .ints 49 (l ++ padS 3 (roomN n)))], rfl, rfl, rfl, ?_⟩
       refine oA rfl rfl ?_
       refine oN ?_
       refine cR ?_
       iterate 2 refine oM rfl rfl ?_
       refine oCall (hi) [(0, 6)] 2 rfl rfl (Fits.mk' (vHc rfl vHn) rfl rfl (by simp)) rfl rfl ?_
       rintro r H1 hR
       obtain ⟨k1, sp1, hk1, rfl, rfl⟩ := listO_pos hcd hR
       refine ⟨.tuple [.slice 8 0 (stoM p (l ++ padS 3 (roomN n)) n).length k1, .int 0], [(6, .ints 49 (l ++ padS 3 (roomN n))), (8, .ints 49 (RR ++ sp1))], rfl, rfl, rfl, ?_⟩
       refine oM rfl rfl ?_
       iterate 2 refine oQ (Q_extract rfl rfl) rfl rfl ?_
       iterate 2 refine oA rfl rfl ?_
       refine oN ?_
       refine CW_seq ?_
       refine cR ?_
       iterate 2 refine oM rfl rfl ?_
       refine oQ (Q_call (eqPointS_same 49 49 RR sp1 sp0 (stoM p (l ++ padS 3 (roomN n)) n).length k1 k0 hRL (by omega)) [(0, 8), (1, 4)] rfl rfl (Fits.mk' (vHc rfl (vHc rfl vHn)) rfl rfl (by simp)) rfl rfl) rfl rfl ?_
       refine oQ (Q_not rfl) rfl rfl ?_
       refine oM rfl rfl ?_
       all_goals first | refine oT rfl rfl ?_ | refine o1 rfl rfl rfl ?_ | refine o0 rfl rfl rfl ?_ | refine ogP1 rfl rfl rfl (fun hg => ?_) (fun hg => ?_) | refine ogP0 rfl rfl rfl (fun hg => ?_) (fun hg => ?_)
       all_goals try simp only [s1, s2, s3, s4, s5, s6, s7, s8, s9, s10, s11, s12] at hg
       all_goals first | (refine oM rfl rfl ?_) | skip
       all_goals first | refine oT rfl rfl ?_ | refine o1 rfl rfl rfl ?_ | refine o0 rfl rfl rfl ?_ | refine ogP1 rfl rfl rfl (fun hg => ?_) (fun hg => ?_) | refine ogP0 rfl rfl rfl (fun hg => ?_) (fun hg => ?_)
       all_goals try simp only [s1, s2, s3, s4, s5, s6, s7, s8, s9, s10, s11, s12] at hg
       all_goals first | (refine oM rfl rfl ?_) | skip
       all_goals first | refine oT rfl rfl ?_ | refine o1 rfl rfl rfl ?_ | refine o0 rfl rfl rfl ?_ | refine ogP1 rfl rfl rfl (fun hg => ?_) (fun hg => ?_) | refine ogP0 rfl rfl rfl (fun hg => ?_) (fun hg => ?_)
       all_goals try simp only [s1, s2, s3, s4, s5, s6, s7, s8, s9, s10, s11, s12] at hg
       all_goals first | (refine oQ (Q_bin rfl rfl rfl) rfl rfl ?_) | skip
       all_goals first | refine oQ (Q_pick_t rfl (by with_reducible rfl) rfl rfl) rfl rfl ?_ | refine oQ (Q_pick_f rfl (by with_reducible rfl) rfl rfl) rfl rfl ?_
       all_goals refine oN ?_
       all_goals (
        first | refine cT rfl ?_ | refine cF rfl ?_ | refine CW_cond rfl (fun hc => ?_) (fun hc => ?_)
        all_goals try simp only [s1, s2, s3, s4, s5, s6, s7, s8, s9, s10, s11, s12] at hc
        all_goals try (exfalso; first | omega | (simp at hc; done); done)
        all_goals first
          | (
           refine CW_skip ?_)
          | (
           refine cR ?_
           refine oA rfl rfl ?_
           refine oN ?_
           refine CW_ret ?_))
       all_goals first
         | with_reducible refine tR ?_
         | with_reducible refine tE ?_
         | (
          with_reducible refine tN ?_
          refine CW_seq ?_
          refine cR ?_
          iterate 2 refine oM rfl rfl ?_
          refine oCall (toPointS_row l o n k false hl hn) [] 2 rfl rfl (Fits.mk' (vHc rfl vHn) rfl rfl (by simp)) rfl rfl ?_
          rintro r H1 hR
          obtain ⟨rfl, rfl⟩ := copyPointR_f hR
          refine ⟨.slice 10 0 n (n + roomN n), [(0, .ro o l), (10, .ints 49 (l ++ padS 3 (roomN n)))], rfl, rfl, rfl, ?_⟩
          refine oQ (Q_call (intactPointS_con 49 49 (l ++ padS 3 (roomN n)) (l ++ padS 3 (roomN n)) n (by rw [List.length_append, hl, hpl, Nat.add_mul]) (by rw [List.length_append, hl, hpl, Nat.add_mul]) (by omega)) [(0, 6), (1, 10)] rfl rfl (Fits.mk' (vHc rfl (vHc rfl vHn)) rfl rfl (by simp)) rfl rfl) rfl rfl ?_
          refine oQ (Q_not rfl) rfl rfl ?_
          refine oN ?_
          first | refine cT rfl ?_ | refine cF rfl ?_ | refine CW_cond rfl (fun hc => ?_) (fun hc => ?_)
          all_goals try simp only [s1, s2, s3, s4, s5, s6, s7, s8, s9, s10, s11, s12] at hc
          all_goals try (exfalso; first | omega | (simp at hc; done); done)
          all_goals first
            | (
             refine CW_skip ?_)
            | (
             refine cR ?_
             refine oA rfl rfl ?_
             refine oN ?_
             refine CW_ret ?_)
          all_goals first
            | with_reducible refine tR ?_
            | with_reducible refine tE ?_
            | (
             with_reducible refine tN ?_
             refine cR ?_
             refine oA rfl rfl ?_
             refine oN ?_
             refine cR ?_
             iterate 2 refine oM rfl rfl ?_
             refine oCall (markPointS_con 101 49 (l ++ padS 3 (roomN n)) n (n + roomN n) (by simp <;> omega) (by omega) (by omega)) [(0, 6)] 0 rfl rfl (Fits.mk' (vHc rfl vHn) rfl rfl (by simp)) rfl rfl ?_
             rintro r H1 ⟨rfl, rfl⟩
             refine ⟨.int ((101 + n * 3 : Nat) : Int), [(6, .ints 49 (seqL 101 (n * 3) ++ (l ++ padS 3 (roomN n)).drop (n * 3)))], rfl, rfl, rfl, ?_⟩
             refine oA rfl rfl ?_
             refine oN ?_
             refine CW_seq ?_
             refine cR ?_
             refine oM rfl rfl ?_
             refine oQ (Q_bin rfl rfl rfl) rfl rfl ?_
             refine oM rfl rfl ?_
             all_goals first | refine oT rfl rfl ?_ | refine o1 rfl rfl rfl ?_ | refine o0 rfl rfl rfl ?_ | refine ogP1 rfl rfl rfl (fun hg => ?_) (fun hg => ?_) | refine ogP0 rfl rfl rfl (fun hg => ?_) (fun hg => ?_)
             all_goals try simp only [s1, s2, s3, s4, s5, s6, s7, s8, s9, s10, s11, s12] at hg
             all_goals first | (refine oM rfl rfl ?_) | skip
             all_goals first | refine oT rfl rfl ?_ | refine o1 rfl rfl rfl ?_ | refine o0 rfl rfl rfl ?_ | refine ogP1 rfl rfl rfl (fun hg => ?_) (fun hg => ?_) | refine ogP0 rfl rfl rfl (fun hg => ?_) (fun hg => ?_)
             all_goals try simp only [s1, s2, s3, s4, s5, s6, s7, s8, s9, s10, s11, s12] at hg
             all_goals first | (refine oM rfl rfl ?_) | skip
             all_goals first | refine oT rfl rfl ?_ | refine o1 rfl rfl rfl ?_ | refine o0 rfl rfl rfl ?_ | refine ogP1 rfl rfl rfl (fun hg => ?_) (fun hg => ?_) | refine ogP0 rfl rfl rfl (fun hg => ?_) (fun hg => ?_)
             all_goals try simp only [s1, s2, s3, s4, s5, s6, s7, s8, s9, s10, s11, s12] at hg
             all_goals first | (refine oQ (Q_call (eqPointS_same 49 49 RR sp1 sp0 (stoM p (l ++ padS 3 (roomN n)) n).length k1 k0 hRL (by omega)) [(0, 8), (1, 4)] rfl rfl (Fits.mk' (vHc rfl (vHc rfl vHn)) rfl rfl (by simp)) rfl rfl) rfl rfl ?_) | skip
             all_goals first | refine oT rfl rfl ?_ | refine o1 rfl rfl rfl ?_ | refine o0 rfl rfl rfl ?_ | refine ogP1 rfl rfl rfl (fun hg => ?_) (fun hg => ?_) | refine ogP0 rfl rfl rfl (fun hg => ?_) (fun hg => ?_)
             all_goals try simp only [s1, s2, s3, s4, s5, s6, s7, s8, s9, s10, s11, s12] at hg
             all_goals first | (refine oQ (Q_not rfl) rfl rfl ?_) | skip
             all_goals first | refine oQ (Q_pick_t rfl (by with_reducible rfl) rfl rfl) rfl rfl ?_ | refine oQ (Q_pick_f rfl (by with_reducible rfl) rfl rfl) rfl rfl ?_
             all_goals first | (refine oM rfl rfl ?_)
             all_goals first | refine oT rfl rfl ?_ | refine o1 rfl rfl rfl ?_ | refine o0 rfl rfl rfl ?_ | refine ogP1 rfl rfl rfl (fun hg => ?_) (fun hg => ?_) | refine ogP0 rfl rfl rfl (fun hg => ?_) (fun hg => ?_)
             all_goals try simp only [s1, s2, s3, s4, s5, s6, s7, s8, s9, s10, s11, s12] at hg
             all_goals first | (refine oM rfl rfl ?_) | skip
             all_goals first | refine oT rfl rfl ?_ | refine o1 rfl rfl rfl ?_ | refine o0 rfl rfl rfl ?_ | refine ogP1 rfl rfl rfl (fun hg => ?_) (fun hg => ?_) | refine ogP0 rfl rfl rfl (fun hg => ?_) (fun hg => ?_)
             all_goals try simp only [s1, s2, s3, s4, s5, s6, s7, s8, s9, s10, s11, s12] at hg
             all_goals first | (refine oM rfl rfl ?_) | skip
             all_goals first | refine oT rfl rfl ?_ | refine o1 rfl rfl rfl ?_ | refine o0 rfl rfl rfl ?_ | refine ogP1 rfl rfl rfl (fun hg => ?_) (fun hg => ?_) | refine ogP0 rfl rfl rfl (fun hg => ?_) (fun hg => ?_)
             all_goals try simp only [s1, s2, s3, s4, s5, s6, s7, s8, s9, s10, s11, s12] at hg
             all_goals first | (refine oQ (Q_bin rfl rfl rfl) rfl rfl ?_) | skip
             all_goals first | refine oQ (Q_pick_t rfl (by with_reducible rfl) rfl rfl) rfl rfl ?_ | refine oQ (Q_pick_f rfl (by with_reducible rfl) rfl rfl) rfl rfl ?_
             all_goals refine oN ?_
             all_goals (
              first | refine cT rfl ?_ | refine cF rfl ?_ | refine CW_cond rfl (fun hc => ?_) (fun hc => ?_)
              all_goals try simp only [s1, s2, s3, s4, s5, s6, s7, s8, s9, s10, s11, s12] at hc
              all_goals try (exfalso; first | omega | (simp at hc; done); done)
              all_goals first
                | (
                 refine CW_skip ?_)
                | (
                 refine cR ?_
                 refine oA rfl rfl ?_
                 refine oN ?_
                 refine CW_ret ?_))
             all_goals first
               | with_reducible refine tR ?_
               | with_reducible refine tE ?_
               | (
                with_reducible refine tN ?_
                refine cR ?_
                refine oA rfl rfl ?_
                refine oN ?_
                refine cR ?_
                iterate 2 refine oM rfl rfl ?_
                refine oCall (markPointS_con 101 49 (RR ++ sp1) ((stoM p (l ++ padS 3 (roomN n)) n).length) k1 (by rw [List.length_append, hRL]; omega) (by omega) (by omega)) [(0, 8)] 0 rfl rfl (Fits.mk' (vHc rfl vHn) rfl rfl (by simp)) rfl rfl ?_
                rintro r H1 ⟨rfl, rfl⟩
                refine ⟨.int ((101 + (stoM p (l ++ padS 3 (roomN n)) n).length * 3 : Nat) : Int), [(8, .ints 49 (seqL 101 ((stoM p (l ++ padS 3 (roomN n)) n).length * 3) ++ (RR ++ sp1).drop ((stoM p (l ++ padS 3 (roomN n)) n).length * 3)))], rfl, rfl, rfl, ?_⟩
                refine oA rfl rfl ?_
                refine oN ?_
                refine cR ?_
                refine oA rfl rfl ?_
                refine oN ?_
                refine cR ?_
                iterate 2 refine oM rfl rfl ?_
                refine oQ (Q_call (heldPointS_con 101 49 ((RR ++ sp1).drop ((stoM p (l ++ padS 3 (roomN n)) n).length * 3)) ((stoM p (l ++ padS 3 (roomN n)) n).length) k1 (by omega) (by omega)) [(0, 8)] rfl rfl (Fits.mk' (vHc rfl vHn) rfl rfl (by simp)) rfl rfl) rfl rfl ?_
                refine oA rfl rfl ?_
                refine oN ?_
                refine CW_seq ?_
                refine cR ?_
                refine oM rfl rfl ?_
                refine oQ (Q_bin rfl rfl rfl) rfl rfl ?_
                refine oN ?_
                first | refine cT rfl ?_ | refine cF rfl ?_ | refine CW_cond rfl (fun hc => ?_) (fun hc => ?_)
                all_goals try simp only [s1, s2, s3, s4, s5, s6, s7, s8, s9, s10, s11, s12] at hc
                all_goals try (exfalso; first | omega | (simp at hc; done); done)
                all_goals first
                  | (
                   refine CW_skip ?_)
                  | (
                   refine cR ?_
                   refine oA rfl rfl ?_
                   refine oN ?_
                   refine CW_ret ?_)
                all_goals first
                  | with_reducible refine tR ?_
                  | with_reducible refine tE ?_
                  | (
                   with_reducible refine tN ?_
                   refine CW_seq ?_
                   refine cR ?_
                   iterate 2 refine oM rfl rfl ?_
                   refine oQ (Q_bin rfl rfl rfl) rfl rfl ?_
                   refine oN ?_
                   first | refine cT rfl ?_ | refine cF rfl ?_ | refine CW_cond rfl (fun hc => ?_) (fun hc => ?_)
                   all_goals try simp only [s1, s2, s3, s4, s5, s6, s7, s8, s9, s10, s11, s12] at hc
                   all_goals try (exfalso; first | omega | (simp at hc; done); done)
                   all_goals first
                     | (
                      refine CW_skip ?_)
                     | (
                      refine cR ?_
                      refine oA rfl rfl ?_
                      refine oN ?_
                      refine CW_ret ?_)
                   all_goals first
                     | with_reducible refine tR ?_
                     | with_reducible refine tE ?_
                     | (
                      with_reducible refine tN ?_
                      refine cR ?_
                      iterate 2 refine oM rfl rfl ?_
                      refine oCall (toPointS_row l o n k true hl hn) [] 2 rfl rfl (Fits.mk' (vHc rfl vHn) rfl rfl (by simp)) rfl rfl ?_
                      rintro r H1 hR
                      rcases copyPointR_t hR with ⟨e0, rfl, rfl⟩ | ⟨rfl, rfl⟩
                      all_goals first | refine ⟨.nilsl, [(0, .ro o l)], rfl, rfl, rfl, ?_⟩ | refine ⟨.slice 12 0 n (n + roomN n), [(0, .ro o l), (12, .ints 49 (l ++ padS 3 (roomN n)))], rfl, rfl, rfl, ?_⟩
                      all_goals first | refine oQ (Q_call0 (hz2 e0) rfl rfl rfl) rfl rfl ?_ | (refine oCall hi [(0, 12)] 2 rfl rfl (Fits.mk' (vHc rfl vHn) rfl rfl (by simp)) rfl rfl ?_; rintro r H1 hR; obtain ⟨k2, sp2, hk2, rfl, rfl⟩ := listO_pos hcd hR; refine ⟨.tuple [.slice 14 0 (stoM p (l ++ padS 3 (roomN n)) n).length k2, .int 0], [(12, .ints 49 (l ++ padS 3 (roomN n))), (14, .ints 49 (RR ++ sp2))], rfl, rfl, rfl, ?_⟩)
                      all_goals first | (refine oM rfl rfl ?_)
                      all_goals first | (refine oQ (Q_extract rfl rfl) rfl rfl ?_)
                      all_goals first | (refine oQ (Q_extract rfl rfl) rfl rfl ?_)
                      all_goals first | (refine oA rfl rfl ?_)
                      all_goals first | (refine oA rfl rfl ?_)
                      all_goals refine oN ?_
                      all_goals (
                       refine CW_seq ?_
                       refine cR ?_
                       iterate 2 refine oM rfl rfl ?_
                       first | refine oQ (Q_call (eqPointS_ns 49 (RR ++ sp0) ((stoM p (l ++ padS 3 (roomN n)) n).length) k0 (hN0 e0)) [(0, 4)] rfl rfl (Fits.mk' (vHc rfl vHn) rfl rfl (by simp)) rfl rfl) rfl rfl ?_ | refine oQ (Q_call (eqPointS_same 49 49 RR sp2 sp0 (stoM p (l ++ padS 3 (roomN n)) n).length k2 k0 hRL (by omega)) [(0, 14), (1, 4)] rfl rfl (Fits.mk' (vHc rfl (vHc rfl vHn)) rfl rfl (by simp)) rfl rfl) rfl rfl ?_
                       refine oQ (Q_not rfl) rfl rfl ?_
                       refine oM rfl rfl ?_
                       all_goals first | refine oT rfl rfl ?_ | refine o1 rfl rfl rfl ?_ | refine o0 rfl rfl rfl ?_ | refine ogP1 rfl rfl rfl (fun hg => ?_) (fun hg => ?_) | refine ogP0 rfl rfl rfl (fun hg => ?_) (fun hg => ?_)
                       all_goals try simp only [s1, s2, s3, s4, s5, s6, s7, s8, s9, s10, s11, s12] at hg
                       all_goals first | (refine oM rfl rfl ?_) | skip
                       all_goals first | refine oT rfl rfl ?_ | refine o1 rfl rfl rfl ?_ | refine o0 rfl rfl rfl ?_ | refine ogP1 rfl rfl rfl (fun hg => ?_) (fun hg => ?_) | refine ogP0 rfl rfl rfl (fun hg => ?_) (fun hg => ?_)
                       all_goals try simp only [s1, s2, s3, s4, s5, s6, s7, s8, s9, s10, s11, s12] at hg
                       all_goals first | (refine oM rfl rfl ?_) | skip
                       all_goals first | refine oT rfl rfl ?_ | refine o1 rfl rfl rfl ?_ | refine o0 rfl rfl rfl ?_ | refine ogP1 rfl rfl rfl (fun hg => ?_) (fun hg => ?_) | refine ogP0 rfl rfl rfl (fun hg => ?_) (fun hg => ?_)
                       all_goals try simp only [s1, s2, s3, s4, s5, s6, s7, s8, s9, s10, s11, s12] at hg
                       all_goals first | (refine oQ (Q_bin rfl rfl rfl) rfl rfl ?_) | skip
                       all_goals first | refine oQ (Q_pick_t rfl (by with_reducible rfl) rfl rfl) rfl rfl ?_ | refine oQ (Q_pick_f rfl (by with_reducible rfl) rfl rfl) rfl rfl ?_
                       all_goals refine oN ?_
                       all_goals (
                        first | refine cT rfl ?_ | refine cF rfl ?_ | refine CW_cond rfl (fun hc => ?_) (fun hc => ?_)
                        all_goals try simp only [s1, s2, s3, s4, s5, s6, s7, s8, s9, s10, s11, s12] at hc
                        all_goals try (exfalso; first | omega | (simp at hc; done); done)
                        all_goals first
                          | (
                           refine CW_skip ?_)
                          | (
                           refine cR ?_
                           refine oA rfl rfl ?_
                           refine oN ?_
                           refine CW_ret ?_))
                       all_goals first
                         | with_reducible refine tR ?_
                         | with_reducible refine tE ?_
                         | (
                          with_reducible refine tN ?_
                          refine cR ?_
                          refine oA rfl rfl ?_
                          refine oN ?_
                          refine cR ?_
                          iterate 2 refine oM rfl rfl ?_
                          refine oQ (Q_call (heldPointS_con 101 49 ((RR ++ sp1).drop ((stoM p (l ++ padS 3 (roomN n)) n).length * 3)) ((stoM p (l ++ padS 3 (roomN n)) n).length) k1 (by omega) (by omega)) [(0, 8)] rfl rfl (Fits.mk' (vHc rfl vHn) rfl rfl (by simp)) rfl rfl) rfl rfl ?_
                          refine oA rfl rfl ?_
                          refine oN ?_
                          refine CW_seq ?_
                          refine cR ?_
                          refine oM rfl rfl ?_
                          refine oQ (Q_bin rfl rfl rfl) rfl rfl ?_
                          refine oN ?_
                          first | refine cT rfl ?_ | refine cF rfl ?_ | refine CW_cond rfl (fun hc => ?_) (fun hc => ?_)
                          all_goals try simp only [s1, s2, s3, s4, s5, s6, s7, s8, s9, s10, s11, s12] at hc
                          all_goals try (exfalso; first | omega | (simp at hc; done); done)
                          all_goals first
                            | (
                             refine CW_skip ?_)
                            | (
                             refine cR ?_
                             refine oA rfl rfl ?_
                             refine oN ?_
                             refine CW_ret ?_)
                          all_goals first
                            | with_reducible refine tR ?_
                            | with_reducible refine tE ?_
                            | (
                             with_reducible refine tN ?_
                             refine CW_seq ?_
                             refine cR ?_
                             iterate 2 refine oM rfl rfl ?_
                             refine oQ (Q_bin rfl rfl rfl) rfl rfl ?_
                             refine oN ?_
                             first | refine cT rfl ?_ | refine cF rfl ?_ | refine CW_cond rfl (fun hc => ?_) (fun hc => ?_)
                             all_goals try simp only [s1, s2, s3, s4, s5, s6, s7, s8, s9, s10, s11, s12] at hc
                             all_goals try (exfalso; first | omega | (simp at hc; done); done)
                             all_goals first
                               | (
                                refine CW_skip ?_)
                               | (
                                refine cR ?_
                                refine oA rfl rfl ?_
                                refine oN ?_
                                refine CW_ret ?_)
                             all_goals first
                               | with_reducible refine tR ?_
                               | with_reducible refine tE ?_
                               | (
                                with_reducible refine tN ?_
                                refine cR ?_
                                refine oA rfl rfl ?_
                                refine oN ?_
                                refine CW_ret ?_))))))))))
    all_goals (
     first | ((refine exitQ (.inr rfl) 1 (.cons (.tmp rfl rfl) .nil) ?_ rfl (vHc rfl vHn) rfl rfl); rfl) | (exfalso; simp at hg; done) | (exfalso; simp_all; done))
  · have hz2 : n = 0 → ConQ Try.prog [] 46 [.int p, .nilsl] [] (.tuple [.nilsl, .int (stoCM p (l ++ padS 3 (roomN n)) n)]) := fun e => by subst e; exact hz
    refine conW tab_ok [(0, .int p), (1, .slice 0 o n k)] 1 [0] [] Try.func12 rfl rfl rfl rfl rfl rfl rfl rfl rfl ?_
    refine cR ?_
    refine oA rfl rfl ?_
    refine oN ?_
    refine cR ?_
    refine oA rfl rfl ?_
    refine oN ?_
    refine cR ?_
    iterate 2 refine oM rfl rfl ?_
    refine oQ (Q_call (szPointS_con o n k l 1000000 hn63 rfl) [] rfl rfl (Fits.mk' (vHc rfl vHn) rfl rfl (by simp)) rfl rfl) rfl rfl ?_
    refine oA rfl rfl ?_
    refine oN ?_
    refine CW_seq ?_
    refine cR ?_
    refine oM rfl rfl ?_
    refine oQ (Q_bin rfl rfl rfl) rfl rfl ?_
    refine oN ?_
    first | refine cT rfl ?_ | refine cF rfl ?_ | refine CW_cond rfl (fun hc => ?_) (fun hc => ?_)
    all_goals try simp only [s1, s2, s3, s4, s5, s6, s7, s8, s9, s10, s11, s12] at hc
    all_goals try (exfalso; first | omega | (simp at hc; done); done)
    all_goals first
      | (
       refine CW_skip ?_)
      | (
       refine cR ?_
       refine oA rfl rfl ?_
       refine oN ?_
       refine CW_ret ?_)
    all_goals first
      | with_reducible refine tR ?_
      | with_reducible refine tE ?_
      | (
       with_reducible refine tN ?_
       refine cR ?_
       iterate 2 refine oM rfl rfl ?_
       (have hn : n ≤ 1000000 := by have hc2 : (0 : Int) ≤ (if (n : Int) ≤ 1000000 then 1000000 - (n : Int) else -1) := hc; split at hc2 <;> omega)
       (have hs := hs hn)
       (have hi := hi hn)
       refine oCall (toPointS_row l o n k false hl hn) [] 2 rfl rfl (Fits.mk' (vHc rfl vHn) rfl rfl (by simp)) rfl rfl ?_
       rintro r H1 hR
       obtain ⟨rfl, rfl⟩ := copyPointR_f hR
       refine ⟨.slice 2 0 n (n + roomN n), [(0, .ro o l), (2, .ints 49 (l ++ padS 3 (roomN n)))], rfl, rfl, rfl, ?_⟩
       refine oCall (hs) [(0, 2)] 2 rfl rfl (Fits.mk' (vHc rfl vHn) rfl rfl (by simp)) rfl rfl ?_
       rintro r H1 hR
       obtain ⟨rfl, rfl⟩ := listO_neg hcd hR
       refine ⟨.tuple [.nilsl, .int (stoCM p (l ++ padS 3 (roomN n)) n)], [(2, .ints 49 (l ++ padS 3 (roomN n)))], rfl, rfl, rfl, ?_⟩
       refine oM rfl rfl ?_
       iterate 2 refine oQ (Q_extract rfl rfl) rfl rfl ?_
       iterate 2 refine oA rfl rfl ?_
       refine oN ?_
       refine cR ?_
       refine oM rfl rfl ?_
       refine oCall (toPointS_row l o n k false hl hn) [] 2 rfl rfl (Fits.mk' (vHc rfl vHn) rfl rfl (by simp)) rfl rfl ?_
       rintro r H1 hR
       obtain ⟨rfl, rfl⟩ := copyPointR_f hR
       refine ⟨.slice 6 0 n (n + roomN n), [(0, .ro o l), (6, .ints 49 (l ++ padS 3 (roomN n)))], rfl, rfl, rfl, ?_⟩
       refine oA rfl rfl ?_
       refine oN ?_
       refine cR ?_
       iterate 2 refine oM rfl rfl ?_
       refine oCall (hi) [(0, 6)] 2 rfl rfl (Fits.mk' (vHc rfl vHn) rfl rfl (by simp)) rfl rfl ?_
       rintro r H1 hR
       obtain ⟨rfl, rfl⟩ := listO_neg hcd hR
       refine ⟨.tuple [.nilsl, .int (stoCM p (l ++ padS 3 (roomN n)) n)], [(6, .ints 49 (l ++ padS 3 (roomN n)))], rfl, rfl, rfl, ?_⟩
       refine oM rfl rfl ?_
       iterate 2 refine oQ (Q_extract rfl rfl) rfl rfl ?_
       iterate 2 refine oA rfl rfl ?_
       refine oN ?_
       refine CW_seq ?_
       refine cR ?_
       iterate 2 refine oM rfl rfl ?_
       refine oQ (Q_call0 (eqPointS_nn) rfl rfl rfl) rfl rfl ?_
       refine oQ (Q_not rfl) rfl rfl ?_
       refine oM rfl rfl ?_
       all_goals first | refine oT rfl rfl ?_ | refine o1 rfl rfl rfl ?_ | refine o0 rfl rfl rfl ?_ | refine ogP1 rfl rfl rfl (fun hg => ?_) (fun hg => ?_) | refine ogP0 rfl rfl rfl (fun hg => ?_) (fun hg => ?_)
       all_goals try simp only [s1, s2, s3, s4, s5, s6, s7, s8, s9, s10, s11, s12] at hg
       all_goals first | (refine oM rfl rfl ?_) | skip
       all_goals first | refine oT rfl rfl ?_ | refine o1 rfl rfl rfl ?_ | refine o0 rfl rfl rfl ?_ | refine ogP1 rfl rfl rfl (fun hg => ?_) (fun hg => ?_) | refine ogP0 rfl rfl rfl (fun hg => ?_) (fun hg => ?_)
       all_goals try simp only [s1, s2, s3, s4, s5, s6, s7, s8, s9, s10, s11, s12] at hg
       all_goals first | (refine oM rfl rfl ?_) | skip
       all_goals first | refine oT rfl rfl ?_ | refine o1 rfl rfl rfl ?_ | refine o0 rfl rfl rfl ?_ | refine ogP1 rfl rfl rfl (fun hg => ?_) (fun hg => ?_) | refine ogP0 rfl rfl rfl (fun hg => ?_) (fun hg => ?_)
       all_goals try simp only [s1, s2, s3, s4, s5, s6, s7, s8, s9, s10, s11, s12] at hg
       all_goals first | (refine oQ (Q_bin rfl rfl rfl) rfl rfl ?_) | skip
       all_goals first | refine oQ (Q_pick_t rfl (by with_reducible rfl) rfl rfl) rfl rfl ?_ | refine oQ (Q_pick_f rfl (by with_reducible rfl) rfl rfl) rfl rfl ?_
       all_goals refine oN ?_
       all_goals (
        first | refine cT rfl ?_ | refine cF rfl ?_ | refine CW_cond rfl (fun hc => ?_) (fun hc => ?_)
        all_goals try simp only [s1, s2, s3, s4, s5, s6, s7, s8, s9, s10, s11, s12] at hc
        all_goals try (exfalso; first | omega | (simp at hc; done); done)
        all_goals first
          | (
           refine CW_skip ?_)
          | (
           refine cR ?_
           refine oA rfl rfl ?_
           refine oN ?_
           refine CW_ret ?_))
       all_goals first
         | with_reducible refine tR ?_
         | with_reducible refine tE ?_
         | (
          with_reducible refine tN ?_
          refine CW_seq ?_
          refine cR ?_
          iterate 2 refine oM rfl rfl ?_
          refine oCall (toPointS_row l o n k false hl hn) [] 2 rfl rfl (Fits.mk' (vHc rfl vHn) rfl rfl (by simp)) rfl rfl ?_
          rintro r H1 hR
          obtain ⟨rfl, rfl⟩ := copyPointR_f hR
          refine ⟨.slice 10 0 n (n + roomN n), [(0, .ro o l), (10, .ints 49 (l ++ padS 3 (roomN n)))], rfl, rfl, rfl, ?_⟩
          refine oQ (Q_call (intactPointS_con 49 49 (l ++ padS 3 (roomN n)) (l ++ padS 3 (roomN n)) n (by rw [List.length_append, hl, hpl, Nat.add_mul]) (by rw [List.length_append, hl, hpl, Nat.add_mul]) (by omega)) [(0, 6), (1, 10)] rfl rfl (Fits.mk' (vHc rfl (vHc rfl vHn)) rfl rfl (by simp)) rfl rfl) rfl rfl ?_
          refine oQ (Q_not rfl) rfl rfl ?_
          refine oN ?_
          first | refine cT rfl ?_ | refine cF rfl ?_ | refine CW_cond rfl (fun hc => ?_) (fun hc => ?_)
          all_goals try simp only [s1, s2, s3, s4, s5, s6, s7, s8, s9, s10, s11, s12] at hc
          all_goals try (exfalso; first | omega | (simp at hc; done); done)
          all_goals first
            | (
             refine CW_skip ?_)
            | (
             refine cR ?_
             refine oA rfl rfl ?_
             refine oN ?_
             refine CW_ret ?_)
          all_goals first
            | with_reducible refine tR ?_
            | with_reducible refine tE ?_
            | (
             with_reducible refine tN ?_
             refine cR ?_
             refine oA rfl rfl ?_
             refine oN ?_
             refine cR ?_
             iterate 2 refine oM rfl rfl ?_
             refine oCall (markPointS_con 101 49 (l ++ padS 3 (roomN n)) n (n + roomN n) (by simp <;> omega) (by omega) (by omega)) [(0, 6)] 0 rfl rfl (Fits.mk' (vHc rfl vHn) rfl rfl (by simp)) rfl rfl ?_
             rintro r H1 ⟨rfl, rfl⟩
             refine ⟨.int ((101 + n * 3 : Nat) : Int), [(6, .ints 49 (seqL 101 (n * 3) ++ (l ++ padS 3 (roomN n)).drop (n * 3)))], rfl, rfl, rfl, ?_⟩
             refine oA rfl rfl ?_
             refine oN ?_
             refine CW_seq ?_
             refine cR ?_
             refine oM rfl rfl ?_
             refine oQ (Q_bin rfl rfl rfl) rfl rfl ?_
             refine oM rfl rfl ?_
             all_goals first | refine oT rfl rfl ?_ | refine o1 rfl rfl rfl ?_ | refine o0 rfl rfl rfl ?_ | refine ogP1 rfl rfl rfl (fun hg => ?_) (fun hg => ?_) | refine ogP0 rfl rfl rfl (fun hg => ?_) (fun hg => ?_)
             all_goals try simp only [s1, s2, s3, s4, s5, s6, s7, s8, s9, s10, s11, s12] at hg
             all_goals first | (refine oM rfl rfl ?_) | skip
             all_goals first | refine oT rfl rfl ?_ | refine o1 rfl rfl rfl ?_ | refine o0 rfl rfl rfl ?_ | refine ogP1 rfl rfl rfl (fun hg => ?_) (fun hg => ?_) | refine ogP0 rfl rfl rfl (fun hg => ?_) (fun hg => ?_)
             all_goals try simp only [s1, s2, s3, s4, s5, s6, s7, s8, s9, s10, s11, s12] at hg
             all_goals first | (refine oM rfl rfl ?_) | skip
             all_goals first | refine oT rfl rfl ?_ | refine o1 rfl rfl rfl ?_ | refine o0 rfl rfl rfl ?_ | refine ogP1 rfl rfl rfl (fun hg => ?_) (fun hg => ?_) | refine ogP0 rfl rfl rfl (fun hg => ?_) (fun hg => ?_)
             all_goals try simp only [s1, s2, s3, s4, s5, s6, s7, s8, s9, s10, s11, s12] at hg
             all_goals first | (refine oQ (Q_call0 (eqPointS_nn) rfl rfl rfl) rfl rfl ?_) | skip
             all_goals first | refine oT rfl rfl ?_ | refine o1 rfl rfl rfl ?_ | refine o0 rfl rfl rfl ?_ | refine ogP1 rfl rfl rfl (fun hg => ?_) (fun hg => ?_) | refine ogP0 rfl rfl rfl (fun hg => ?_) (fun hg => ?_)
             all_goals try simp only [s1, s2, s3, s4, s5, s6, s7, s8, s9, s10, s11, s12] at hg
             all_goals first | (refine oQ (Q_not rfl) rfl rfl ?_) | skip
             all_goals first | refine oQ (Q_pick_t rfl (by with_reducible rfl) rfl rfl) rfl rfl ?_ | refine oQ (Q_pick_f rfl (by with_reducible rfl) rfl rfl) rfl rfl ?_
             all_goals first | (refine oM rfl rfl ?_)
             all_goals first | refine oT rfl rfl ?_ | refine o1 rfl rfl rfl ?_ | refine o0 rfl rfl rfl ?_ | refine ogP1 rfl rfl rfl (fun hg => ?_) (fun hg => ?_) | refine ogP0 rfl rfl rfl (fun hg => ?_) (fun hg => ?_)
             all_goals try simp only [s1, s2, s3, s4, s5, s6, s7, s8, s9, s10, s11, s12] at hg
             all_goals first | (refine oM rfl rfl ?_) | skip
             all_goals first | refine oT rfl rfl ?_ | refine o1 rfl rfl rfl ?_ | refine o0 rfl rfl rfl ?_ | refine ogP1 rfl rfl rfl (fun hg => ?_) (fun hg => ?_) | refine ogP0 rfl rfl rfl (fun hg => ?_) (fun hg => ?_)
             all_goals try simp only [s1, s2, s3, s4, s5, s6, s7, s8, s9, s10, s11, s12] at hg
             all_goals first | (refine oM rfl rfl ?_) | skip
             all_goals first | refine oT rfl rfl ?_ | refine o1 rfl rfl rfl ?_ | refine o0 rfl rfl rfl ?_ | refine ogP1 rfl rfl rfl (fun hg => ?_) (fun hg => ?_) | refine ogP0 rfl rfl rfl (fun hg => ?_) (fun hg => ?_)
             all_goals try simp only [s1, s2, s3, s4, s5, s6, s7, s8, s9, s10, s11, s12] at hg
             all_goals first | (refine oQ (Q_bin rfl rfl rfl) rfl rfl ?_) | skip
             all_goals first | refine oQ (Q_pick_t rfl (by with_reducible rfl) rfl rfl) rfl rfl ?_ | refine oQ (Q_pick_f rfl (by with_reducible rfl) rfl rfl) rfl rfl ?_
             all_goals refine oN ?_
             all_goals (
              first | refine cT rfl ?_ | refine cF rfl ?_ | refine CW_cond rfl (fun hc => ?_) (fun hc => ?_)
              all_goals try simp only [s1, s2, s3, s4, s5, s6, s7, s8, s9, s10, s11, s12] at hc
              all_goals try (exfalso; first | omega | (simp at hc; done); done)
              all_goals first
                | (
                 refine CW_skip ?_)
                | (
                 refine cR ?_
                 refine oA rfl rfl ?_
                 refine oN ?_
                 refine CW_ret ?_))
             all_goals first
               | with_reducible refine tR ?_
               | with_reducible refine tE ?_
               | (
                with_reducible refine tN ?_
                refine cR ?_
                refine oA rfl rfl ?_
                refine oN ?_
                refine cR ?_
                iterate 2 refine oM rfl rfl ?_
                refine oQ (Q_call0 (markPointS_nil 101) rfl rfl rfl) rfl rfl ?_
                refine oA rfl rfl ?_
                refine oN ?_
                refine cR ?_
                refine oA rfl rfl ?_
                refine oN ?_
                refine cR ?_
                iterate 2 refine oM rfl rfl ?_
                refine oQ (Q_call0 (heldPointS_nil 101) rfl rfl rfl) rfl rfl ?_
                refine oA rfl rfl ?_
                refine oN ?_
                refine CW_seq ?_
                refine cR ?_
                refine oM rfl rfl ?_
                refine oQ (Q_bin rfl rfl rfl) rfl rfl ?_
                refine oN ?_
                first | refine cT rfl ?_ | refine cF rfl ?_ | refine CW_cond rfl (fun hc => ?_) (fun hc => ?_)
                all_goals try simp only [s1, s2, s3, s4, s5, s6, s7, s8, s9, s10, s11, s12] at hc
                all_goals try (exfalso; first | omega | (simp at hc; done); done)
                all_goals first
                  | (
                   refine CW_skip ?_)
                  | (
                   refine cR ?_
                   refine oA rfl rfl ?_
                   refine oN ?_
                   refine CW_ret ?_)
                all_goals first
                  | with_reducible refine tR ?_
                  | with_reducible refine tE ?_
                  | (
                   with_reducible refine tN ?_
                   refine CW_seq ?_
                   refine cR ?_
                   iterate 2 refine oM rfl rfl ?_
                   refine oQ (Q_bin rfl rfl rfl) rfl rfl ?_
                   refine oN ?_
                   first | refine cT rfl ?_ | refine cF rfl ?_ | refine CW_cond rfl (fun hc => ?_) (fun hc => ?_)
                   all_goals try simp only [s1, s2, s3, s4, s5, s6, s7, s8, s9, s10, s11, s12] at hc
                   all_goals try (exfalso; first | omega | (simp at hc; done); done)
                   all_goals first
                     | (
                      refine CW_skip ?_)
                     | (
                      refine cR ?_
                      refine oA rfl rfl ?_
                      refine oN ?_
                      refine CW_ret ?_)
                   all_goals first
                     | with_reducible refine tR ?_
                     | with_reducible refine tE ?_
                     | (
                      with_reducible refine tN ?_
                      refine cR ?_
                      iterate 2 refine oM rfl rfl ?_
                      refine oCall (toPointS_row l o n k true hl hn) [] 2 rfl rfl (Fits.mk' (vHc rfl vHn) rfl rfl (by simp)) rfl rfl ?_
                      rintro r H1 hR
                      rcases copyPointR_t hR with ⟨e0, rfl, rfl⟩ | ⟨rfl, rfl⟩
                      all_goals first | refine ⟨.nilsl, [(0, .ro o l)], rfl, rfl, rfl, ?_⟩ | refine ⟨.slice 12 0 n (n + roomN n), [(0, .ro o l), (12, .ints 49 (l ++ padS 3 (roomN n)))], rfl, rfl, rfl, ?_⟩
                      all_goals first | refine oQ (Q_call0 (hz2 e0) rfl rfl rfl) rfl rfl ?_ | (refine oCall hi [(0, 12)] 2 rfl rfl (Fits.mk' (vHc rfl vHn) rfl rfl (by simp)) rfl rfl ?_; rintro r H1 hR; obtain ⟨rfl, rfl⟩ := listO_neg hcd hR; refine ⟨.tuple [.nilsl, .int (stoCM p (l ++ padS 3 (roomN n)) n)], [(12, .ints 49 (l ++ padS 3 (roomN n)))], rfl, rfl, rfl, ?_⟩)
                      all_goals first | (refine oM rfl rfl ?_)
                      all_goals first | (refine oQ (Q_extract rfl rfl) rfl rfl ?_)
                      all_goals first | (refine oQ (Q_extract rfl rfl) rfl rfl ?_)
                      all_goals first | (refine oA rfl rfl ?_)
                      all_goals first | (refine oA rfl rfl ?_)
                      all_goals refine oN ?_
                      all_goals (
                       refine CW_seq ?_
                       refine cR ?_
                       iterate 2 refine oM rfl rfl ?_
                       refine oQ (Q_call0 (eqPointS_nn) rfl rfl rfl) rfl rfl ?_
                       refine oQ (Q_not rfl) rfl rfl ?_
                       refine oM rfl rfl ?_
                       all_goals first | refine oT rfl rfl ?_ | refine o1 rfl rfl rfl ?_ | refine o0 rfl rfl rfl ?_ | refine ogP1 rfl rfl rfl (fun hg => ?_) (fun hg => ?_) | refine ogP0 rfl rfl rfl (fun hg => ?_) (fun hg => ?_)
                       all_goals try simp only [s1, s2, s3, s4, s5, s6, s7, s8, s9, s10, s11, s12] at hg
                       all_goals first | (refine oM rfl rfl ?_) | skip
                       all_goals first | refine oT rfl rfl ?_ | refine o1 rfl rfl rfl ?_ | refine o0 rfl rfl rfl ?_ | refine ogP1 rfl rfl rfl (fun hg => ?_) (fun hg => ?_) | refine ogP0 rfl rfl rfl (fun hg => ?_) (fun hg => ?_)
                       all_goals try simp only [s1, s2, s3, s4, s5, s6, s7, s8, s9, s10, s11, s12] at hg
                       all_goals first | (refine oM rfl rfl ?_) | skip
                       all_goals first | refine oT rfl rfl ?_ | refine o1 rfl rfl rfl ?_ | refine o0 rfl rfl rfl ?_ | refine ogP1 rfl rfl rfl (fun hg => ?_) (fun hg => ?_) | refine ogP0 rfl rfl rfl (fun hg => ?_) (fun hg => ?_)
                       all_goals try simp only [s1, s2, s3, s4, s5, s6, s7, s8, s9, s10, s11, s12] at hg
                       all_goals first | (refine oQ (Q_bin rfl rfl rfl) rfl rfl ?_) | skip
                       all_goals first | refine oQ (Q_pick_t rfl (by with_reducible rfl) rfl rfl) rfl rfl ?_ | refine oQ (Q_pick_f rfl (by with_reducible rfl) rfl rfl) rfl rfl ?_
                       all_goals refine oN ?_
                       all_goals (
                        first | refine cT rfl ?_ | refine cF rfl ?_ | refine CW_cond rfl (fun hc => ?_) (fun hc => ?_)
                        all_goals try simp only [s1, s2, s3, s4, s5, s6, s7, s8, s9, s10, s11, s12] at hc
                        all_goals try (exfalso; first | omega | (simp at hc; done); done)
                        all_goals first
                          | (
                           refine CW_skip ?_)
                          | (
                           refine cR ?_
                           refine oA rfl rfl ?_
                           refine oN ?_
                           refine CW_ret ?_))
                       all_goals first
                         | with_reducible refine tR ?_
                         | with_reducible refine tE ?_
                         | (
                          with_reducible refine tN ?_
                          refine cR ?_
                          refine oA rfl rfl ?_
                          refine oN ?_
                          refine cR ?_
                          iterate 2 refine oM rfl rfl ?_
                          refine oQ (Q_call0 (heldPointS_nil 101) rfl rfl rfl) rfl rfl ?_
                          refine oA rfl rfl ?_
                          refine oN ?_
                          refine CW_seq ?_
                          refine cR ?_
                          refine oM rfl rfl ?_
                          refine oQ (Q_bin rfl rfl rfl) rfl rfl ?_
                          refine oN ?_
                          first | refine cT rfl ?_ | refine cF rfl ?_ | refine CW_cond rfl (fun hc => ?_) (fun hc => ?_)
                          all_goals try simp only [s1, s2, s3, s4, s5, s6, s7, s8, s9, s10, s11, s12] at hc
                          all_goals try (exfalso; first | omega | (simp at hc; done); done)
                          all_goals first
                            | (
                             refine CW_skip ?_)
                            | (
                             refine cR ?_
                             refine oA rfl rfl ?_
                             refine oN ?_
                             refine CW_ret ?_)
                          all_goals first
                            | with_reducible refine tR ?_
                            | with_reducible refine tE ?_
                            | (
                             with_reducible refine tN ?_
                             refine CW_seq ?_
                             refine cR ?_
                             iterate 2 refine oM rfl rfl ?_
                             refine oQ (Q_bin rfl rfl rfl) rfl rfl ?_
                             refine oN ?_
                             first | refine cT rfl ?_ | refine cF rfl ?_ | refine CW_cond rfl (fun hc => ?_) (fun hc => ?_)
                             all_goals try simp only [s1, s2, s3, s4, s5, s6, s7, s8, s9, s10, s11, s12] at hc
                             all_goals try (exfalso; first | omega | (simp at hc; done); done)
                             all_goals first
                               | (
                                refine CW_skip ?_)
                               | (
                                refine cR ?_
                                refine oA rfl rfl ?_
                                refine oN ?_
                                refine CW_ret ?_)
                             all_goals first
                               | with_reducible refine tR ?_
                               | with_reducible refine tE ?_
                               | (
                                with_reducible refine tN ?_
                                refine cR ?_
                                refine oA rfl rfl ?_
                                refine oN ?_
                                refine CW_ret ?_))))))))))
    all_goals (
     first | ((refine exitQ (.inr rfl) 1 (.cons (.tmp rfl rfl) .nil) ?_ rfl (vHc rfl vHn) rfl rfl); rfl) | (exfalso; simp at hg; done) | (exfalso; simp_all; done))
theorem law_FnExactSetOf_nil (p : Int) : ConQ Try.prog [] 12 [.int p, .nilsl] [] (.bool true) := by
  have hroom := roomN_le 0
  have hpl := padS_length 3 (roomN 0) (by decide)
  have hs := fun hn9 : 0 ≤ 1000000 => spec_SetOf_M p (([] : List Int) ++ padS 3 (roomN 0)) 0 (0 + roomN 0) (by simp <;> omega) (by omega)
  have hi := fun hn9 : 0 ≤ 1000000 => impl_SetOf_M p (([] : List Int) ++ padS 3 (roomN 0)) 0 (0 + roomN 0) (by simp <;> omega) (by omega)
  have hz := impl_SetOf_nil p
  by_cases hcd : stoCM p (([] : List Int) ++ padS 3 (roomN 0)) 0 = 0
  · have hRL : ((stoM p (([] : List Int) ++ padS 3 (roomN 0)) 0).flatten).length = (stoM p (([] : List Int) ++ padS 3 (roomN 0)) 0).length * 3 := flat3 (sto_three p (by simp <;> omega))
    have hNb : (stoM p (([] : List Int) ++ padS 3 (roomN 0)) 0).length ≤ 1000000 := (by have h1 := stoC_len hcd; exact Nat.le_trans h1 (by decide))
    have hz2 : 0 = 0 → ConQ Try.prog [] 46 [.int p, .nilsl] [] (.tuple [.nilsl, .int (stoCM p (([] : List Int) ++ padS 3 (roomN 0)) 0)]) := fun e => by exact hz
    rw [hcd] at hz2
    have hN0 : 0 = 0 → (stoM p (([] : List Int) ++ padS 3 (roomN 0)) 0).length = 0 := fun e => by rfl
    generalize hRR : (stoM p (([] : List Int) ++ padS 3 (roomN 0)) 0).flatten = RR at *
    refine conW tab_ok [(0, .int p), (1, .nilsl)] 0 [] [] Try.func12 rfl rfl rfl rfl rfl rfl rfl rfl rfl ?_
    refine cR ?_
    refine oA rfl rfl ?_
    refine oN ?_
    refine cR ?_
    refine oA rfl rfl ?_
    refine oN ?_
    refine cR ?_
    iterate 2 refine oM rfl rfl ?_
    refine oQ (Q_call0 (szPointS_nil 1000000 rfl) rfl rfl rfl) rfl rfl ?_
    refine oA rfl rfl ?_
    refine oN ?_
    refine CW_seq ?_
    refine cR ?_
    refine oM rfl rfl ?_
    refine oQ (Q_bin rfl rfl rfl) rfl rfl ?_
    refine oN ?_
    first | refine cT rfl ?_ | refine cF rfl ?_ | refine CW_cond rfl (fun hc => ?_) (fun hc => ?_)
    all_goals try simp only [s1, s2, s3, s4, s5, s6, s7, s8, s9, s10, s11, s12] at hc
    all_goals try (exfalso; first | omega | (simp at hc; done); done)
    all_goals first
      | (
       refine CW_skip ?_)
      | (
       refine cR ?_
       refine oA rfl rfl ?_
       refine oN ?_
       refine CW_ret ?_)
    all_goals first
      | with_reducible refine tR ?_
      | with_reducible refine tE ?_
      | (
       with_reducible refine tN ?_
       refine cR ?_
       iterate 2 refine oM rfl rfl ?_
       (have hn : 0 ≤ 1000000 := by omega)
       (have hs := hs hn)
       (have hi := hi hn)
       refine oCall (toPointS_nil false) [] 2 rfl rfl (Fits.mk' vHn rfl rfl (by simp)) rfl rfl ?_
       rintro r H1 hR
       obtain ⟨rfl, rfl⟩ := copyPointR_f hR
       refine ⟨.slice 1 0 0 (0 + roomN 0), [(1, .ints 49 (([] : List Int) ++ padS 3 (roomN 0)))], rfl, rfl, rfl, ?_⟩
       refine oCall (hs) [(0, 1)] 2 rfl rfl (Fits.mk' (vHc rfl vHn) rfl rfl (by simp)) rfl rfl ?_
       rintro r H1 hR
       obtain ⟨k0, sp0, hk0, rfl, rfl⟩ := listO_pos hcd hR
       refine ⟨.tuple [.slice 3 0 (stoM p (([] : List Int) ++ padS 3 (roomN 0)) 0).length k0, .int 0], [(1, .ints 49 (([] : List Int) ++ padS 3 (roomN 0))), (3, .ints 49 (RR ++ sp0))], rfl, rfl, rfl, ?_⟩
       refine oM rfl rfl ?_
       iterate 2 refine oQ (Q_extract rfl rfl) rfl rfl ?_
       iterate 2 refine oA rfl rfl ?_
       refine oN ?_
       refine cR ?_
       refine oM rfl rfl ?_
       refine oCall (toPointS_nil false) [] 2 rfl rfl (Fits.mk' vHn rfl rfl (by simp)) rfl rfl ?_
       rintro r H1 hR
       obtain ⟨rfl, rfl⟩ := copyPointR_f hR
       refine ⟨.slice 5 0 0 (0 + roomN 0), [(5, .ints 49 (([] : List Int) ++ padS 3 (roomN 0)))], rfl, rfl, rfl, ?_⟩
       refine oA rfl rfl ?_
       refine oN ?_
       refine cR ?_
       iterate 2 refine oM rfl rfl ?_
       refine oCall (hi) [(0, 5)] 2 rfl rfl (Fits.mk' (vHc rfl vHn) rfl rfl (by simp)) rfl rfl ?_
       rintro r H1 hR
       obtain ⟨k1, sp1, hk1, rfl, rfl⟩ := listO_pos hcd hR
       refine ⟨.tuple [.slice 7 0 (stoM p (([] : List Int) ++ padS 3 (roomN 0)) 0).length k1, .int 0], [(5, .ints 49 (([] : List Int) ++ padS 3 (roomN 0))), (7, .ints 49 (RR ++ sp1))], rfl, rfl, rfl, ?_⟩
       refine oM rfl rfl ?_
       iterate 2 refine oQ (Q_extract rfl rfl) rfl rfl ?_
       iterate 2 refine oA rfl rfl ?_
       refine oN ?_
       refine CW_seq ?_
       refine cR ?_
       iterate 2 refine oM rfl rfl ?_
       refine oQ (Q_call (eqPointS_same 49 49 RR sp1 sp0 (stoM p (([] : List Int) ++ padS 3 (roomN 0)) 0).length k1 k0 hRL (by omega)) [(0, 7), (1, 3)] rfl rfl (Fits.mk' (vHc rfl (vHc rfl vHn)) rfl rfl (by simp)) rfl rfl) rfl rfl ?_
       refine oQ (Q_not rfl) rfl rfl ?_
       refine oM rfl rfl ?_
       all_goals first | refine oT rfl rfl ?_ | refine o1 rfl rfl rfl ?_ | refine o0 rfl rfl rfl ?_ | refine ogP1 rfl rfl rfl (fun hg => ?_) (fun hg => ?_) | refine ogP0 rfl rfl rfl (fun hg => ?_) (fun hg => ?_)
       all_goals try simp only [s1, s2, s3, s4, s5, s6, s7, s8, s9, s10, s11, s12] at hg
       all_goals first | (refine oM rfl rfl ?_) | skip
       all_goals first | refine oT rfl rfl ?_ | refine o1 rfl rfl rfl ?_ | refine o0 rfl rfl rfl ?_ | refine ogP1 rfl rfl rfl (fun hg => ?_) (fun hg => ?_) | refine ogP0 rfl rfl rfl (fun hg => ?_) (fun hg => ?_)
       all_goals try simp only [s1, s2, s3, s4, s5, s6, s7, s8, s9, s10, s11, s12] at hg
       all_goals first | (refine oM rfl rfl ?_) | skip
       all_goals first | refine oT rfl rfl ?_ | refine o1 rfl rfl rfl ?_ | refine o0 rfl rfl rfl ?_ | refine ogP1 rfl rfl rfl (fun hg => ?_) (fun hg => ?_) | refine ogP0 rfl rfl rfl (fun hg => ?_) (fun hg => ?_)
       all_goals try simp only [s1, s2, s3, s4, s5, s6, s7, s8, s9, s10, s11, s12] at hg
       all_goals first | (refine oQ (Q_bin rfl rfl rfl) rfl rfl ?_) | skip
       all_goals first | refine oQ (Q_pick_t rfl (by with_reducible rfl) rfl rfl) rfl rfl ?_ | refine oQ (Q_pick_f rfl (by with_reducible rfl) rfl rfl) rfl rfl ?_
       all_goals refine oN ?_
       all_goals (
        first | refine cT rfl ?_ | refine cF rfl ?_ | refine CW_cond rfl (fun hc => ?_) (fun hc => ?_)
        all_goals try simp only [s1, s2, s3, s4, s5, s6, s7, s8, s9, s10, s11, s12] at hc
        all_goals try (exfalso; first | omega | (simp at hc; done); done)
        all_goals first
          | (
           refine CW_skip ?_)
          | (
           refine cR ?_
           refine oA rfl rfl ?_
           refine oN ?_
           refine CW_ret ?_))
       all_goals first
         | with_reducible refine tR ?_
         | with_reducible refine tE ?_
         | (
          with_reducible refine tN ?_
          refine CW_seq ?_
          refine cR ?_
          iterate 2 refine oM rfl rfl ?_
          refine oCall (toPointS_nil false) [] 2 rfl rfl (Fits.mk' vHn rfl rfl (by simp)) rfl rfl ?_
          rintro r H1 hR
          obtain ⟨rfl, rfl⟩ := copyPointR_f hR
          refine ⟨.slice 9 0 0 (0 + roomN 0), [(9, .ints 49 (([] : List Int) ++ padS 3 (roomN 0)))], rfl, rfl, rfl, ?_⟩
          refine oQ (Q_call (intactPointS_con 49 49 (([] : List Int) ++ padS 3 (roomN 0)) (([] : List Int) ++ padS 3 (roomN 0)) 0 (by rw [List.length_append, List.length_nil, hpl, Nat.add_mul]) (by rw [List.length_append, List.length_nil, hpl, Nat.add_mul]) (by omega)) [(0, 5), (1, 9)] rfl rfl (Fits.mk' (vHc rfl (vHc rfl vHn)) rfl rfl (by simp)) rfl rfl) rfl rfl ?_
          refine oQ (Q_not rfl) rfl rfl ?_
          refine oN ?_
          first | refine cT rfl ?_ | refine cF rfl ?_ | refine CW_cond rfl (fun hc => ?_) (fun hc => ?_)
          all_goals try simp only [s1, s2, s3, s4, s5, s6, s7, s8, s9, s10, s11, s12] at hc
          all_goals try (exfalso; first | omega | (simp at hc; done); done)
          all_goals first
            | (
             refine CW_skip ?_)
            | (
             refine cR ?_
             refine oA rfl rfl ?_
             refine oN ?_
             refine CW_ret ?_)
          all_goals first
            | with_reducible refine tR ?_
            | with_reducible refine tE ?_
            | (
             with_reducible refine tN ?_
             refine cR ?_
             refine oA rfl rfl ?_
             refine oN ?_
             refine cR ?_
             iterate 2 refine oM rfl rfl ?_
             refine oCall (markPointS_con 101 49 (([] : List Int) ++ padS 3 (roomN 0)) 0 (0 + roomN 0) (by simp <;> omega) (by omega) (by omega)) [(0, 5)] 0 rfl rfl (Fits.mk' (vHc rfl vHn) rfl rfl (by simp)) rfl rfl ?_
             rintro r H1 ⟨rfl, rfl⟩
             refine ⟨.int ((101 + 0 * 3 : Nat) : Int), [(5, .ints 49 (seqL 101 (0 * 3) ++ (([] : List Int) ++ padS 3 (roomN 0)).drop (0 * 3)))], rfl, rfl, rfl, ?_⟩
             refine oA rfl rfl ?_
             refine oN ?_
             refine CW_seq ?_
             refine cR ?_
             refine oM rfl rfl ?_
             refine oQ (Q_bin rfl rfl rfl) rfl rfl ?_
             refine oM rfl rfl ?_
             all_goals first | refine oT rfl rfl ?_ | refine o1 rfl rfl rfl ?_ | refine o0 rfl rfl rfl ?_ | refine ogP1 rfl rfl rfl (fun hg => ?_) (fun hg => ?_) | refine ogP0 rfl rfl rfl (fun hg => ?_) (fun hg => ?_)
             all_goals try simp only [s1, s2, s3, s4, s5, s6, s7, s8, s9, s10, s11, s12] at hg
             all_goals first | (refine oM rfl rfl ?_) | skip
             all_goals first | refine oT rfl rfl ?_ | refine o1 rfl rfl rfl ?_ | refine o0 rfl rfl rfl ?_ | refine ogP1 rfl rfl rfl (fun hg => ?_) (fun hg => ?_) | refine ogP0 rfl rfl rfl (fun hg => ?_) (fun hg => ?_)
             all_goals try simp only [s1, s2, s3, s4, s5, s6, s7, s8, s9, s10, s11, s12] at hg
             all_goals first | (refine oM rfl rfl ?_) | skip
             all_goals first | refine oT rfl rfl ?_ | refine o1 rfl rfl rfl ?_ | refine o0 rfl rfl rfl ?_ | refine ogP1 rfl rfl rfl (fun hg => ?_) (fun hg => ?_) | refine ogP0 rfl rfl rfl (fun hg => ?_) (fun hg => ?_)
             all_goals try simp only [s1, s2, s3, s4, s5, s6, s7, s8, s9, s10, s11, s12] at hg
             all_goals first | (refine oQ (Q_call (eqPointS_same 49 49 RR sp1 sp0 (stoM p (([] : List Int) ++ padS 3 (roomN 0)) 0).length k1 k0 hRL (by omega)) [(0, 7), (1, 3)] rfl rfl (Fits.mk' (vHc rfl (vHc rfl vHn)) rfl rfl (by simp)) rfl rfl) rfl rfl ?_) | skip
             all_goals first | refine oT rfl rfl ?_ | refine o1 rfl rfl rfl ?_ | refine o0 rfl rfl rfl ?_ | refine ogP1 rfl rfl rfl (fun hg => ?_) (fun hg => ?_) | refine ogP0 rfl rfl rfl (fun hg => ?_) (fun hg => ?_)
             all_goals try simp only [s1, s2, s3, s4, s5, s6, s7, s8, s9, s10, s11, s12] at hg
             all_goals first | (refine oQ (Q_not rfl) rfl rfl ?_) | skip
             all_goals first | refine oQ (Q_pick_t rfl (by with_reducible rfl) rfl rfl) rfl rfl ?_ | refine oQ (Q_pick_f rfl (by with_reducible rfl) rfl rfl) rfl rfl ?_
             all_goals first | (refine oM rfl rfl ?_)
             all_goals first | refine oT rfl rfl ?_ | refine o1 rfl rfl rfl ?_ | refine o0 rfl rfl rfl ?_ | refine ogP1 rfl rfl rfl (fun hg => ?_) (fun hg => ?_) | refine ogP0 rfl rfl rfl (fun hg => ?_) (fun hg => ?_)
             all_goals try simp only [s1, s2, s3, s4, s5, s6, s7, s8, s9, s10, s11, s12] at hg
             all_goals first | (refine oM rfl rfl ?_) | skip
             all_goals first | refine oT rfl rfl ?_ | refine o1 rfl rfl rfl ?_ | refine o0 rfl rfl rfl ?_ | refine ogP1 rfl rfl rfl (fun hg => ?_) (fun hg => ?_) | refine ogP0 rfl rfl rfl (fun hg => ?_) (fun hg => ?_)
             all_goals try simp only [s1, s2, s3, s4, s5, s6, s7, s8, s9, s10, s11, s12] at hg
             all_goals first | (refine oM rfl rfl ?_) | skip
             all_goals first | refine oT rfl rfl ?_ | refine o1 rfl rfl rfl ?_ | refine o0 rfl rfl rfl ?_ | refine ogP1 rfl rfl rfl (fun hg => ?_) (fun hg => ?_) | refine ogP0 rfl rfl rfl (fun hg => ?_) (fun hg => ?_)
             all_goals try simp only [s1, s2, s3, s4, s5, s6, s7, s8, s9, s10, s11, s12] at hg
             all_goals first | (refine oQ (Q_bin rfl rfl rfl) rfl rfl ?_) | skip
             all_goals first | refine oQ (Q_pick_t rfl (by with_reducible rfl) rfl rfl) rfl rfl ?_ | refine oQ (Q_pick_f rfl (by with_reducible rfl) rfl rfl) rfl rfl ?_
             all_goals refine oN ?_
             all_goals (
              first | refine cT rfl ?_ | refine cF rfl ?_ | refine CW_cond rfl (fun hc => ?_) (fun hc => ?_)
              all_goals try simp only [s1, s2, s3, s4, s5, s6, s7, s8, s9, s10, s11, s12] at hc
              all_goals try (exfalso; first | omega | (simp at hc; done); done)
              all_goals first
                | (
                 refine CW_skip ?_)
                | (
                 refine cR ?_
                 refine oA rfl rfl ?_
                 refine oN ?_
                 refine CW_ret ?_))
             all_goals first
               | with_reducible refine tR ?_
               | with_reducible refine tE ?_
               | (
                with_reducible refine tN ?_
                refine cR ?_
                refine oA rfl rfl ?_
                refine oN ?_
                refine cR ?_
                iterate 2 refine oM rfl rfl ?_
                refine oCall (markPointS_con 101 49 (RR ++ sp1) ((stoM p (([] : List Int) ++ padS 3 (roomN 0)) 0).length) k1 (by rw [List.length_append, hRL]; omega) (by omega) (by omega)) [(0, 7)] 0 rfl rfl (Fits.mk' (vHc rfl vHn) rfl rfl (by simp)) rfl rfl ?_
                rintro r H1 ⟨rfl, rfl⟩
                refine ⟨.int ((101 + (stoM p (([] : List Int) ++ padS 3 (roomN 0)) 0).length * 3 : Nat) : Int), [(7, .ints 49 (seqL 101 ((stoM p (([] : List Int) ++ padS 3 (roomN 0)) 0).length * 3) ++ (RR ++ sp1).drop ((stoM p (([] : List Int) ++ padS 3 (roomN 0)) 0).length * 3)))], rfl, rfl, rfl, ?_⟩
                refine oA rfl rfl ?_
                refine oN ?_
                refine cR ?_
                refine oA rfl rfl ?_
                refine oN ?_
                refine cR ?_
                iterate 2 refine oM rfl rfl ?_
                refine oQ (Q_call (heldPointS_con 101 49 ((RR ++ sp1).drop ((stoM p (([] : List Int) ++ padS 3 (roomN 0)) 0).length * 3)) ((stoM p (([] : List Int) ++ padS 3 (roomN 0)) 0).length) k1 (by omega) (by omega)) [(0, 7)] rfl rfl (Fits.mk' (vHc rfl vHn) rfl rfl (by simp)) rfl rfl) rfl rfl ?_
                refine oA rfl rfl ?_
                refine oN ?_
                refine CW_seq ?_
                refine cR ?_
                refine oM rfl rfl ?_
                refine oQ (Q_bin rfl rfl rfl) rfl rfl ?_
                refine oN ?_
                first | refine cT rfl ?_ | refine cF rfl ?_ | refine CW_cond rfl (fun hc => ?_) (fun hc => ?_)
                all_goals try simp only [s1, s2, s3, s4, s5, s6, s7, s8, s9, s10, s11, s12] at hc
                all_goals try (exfalso; first | omega | (simp at hc; done); done)
                all_goals first
                  | (
                   refine CW_skip ?_)
                  | (
                   refine cR ?_
                   refine oA rfl rfl ?_
                   refine oN ?_
                   refine CW_ret ?_)
                all_goals first
                  | with_reducible refine tR ?_
                  | with_reducible refine tE ?_
                  | (
                   with_reducible refine tN ?_
                   refine CW_seq ?_
                   refine cR ?_
                   iterate 2 refine oM rfl rfl ?_
                   refine oQ (Q_bin rfl rfl rfl) rfl rfl ?_
                   refine oN ?_
                   first | refine cT rfl ?_ | refine cF rfl ?_ | refine CW_cond rfl (fun hc => ?_) (fun hc => ?_)
                   all_goals try simp only [s1, s2, s3, s4, s5, s6, s7, s8, s9, s10, s11, s12] at hc
                   all_goals try (exfalso; first | omega | (simp at hc; done); done)
                   all_goals first
                     | (
                      refine CW_skip ?_)
                     | (
                      refine cR ?_
                      refine oA rfl rfl ?_
                      refine oN ?_
                      refine CW_ret ?_)
                   all_goals first
                     | with_reducible refine tR ?_
                     | with_reducible refine tE ?_
                     | (
                      with_reducible refine tN ?_
                      refine cR ?_
                      iterate 2 refine oM rfl rfl ?_
                      refine oCall (toPointS_nil true) [] 2 rfl rfl (Fits.mk' vHn rfl rfl (by simp)) rfl rfl ?_
                      rintro r H1 hR
                      rcases copyPointR_t hR with ⟨e0, rfl, rfl⟩ | ⟨rfl, rfl⟩
                      all_goals first | refine ⟨.nilsl, [], rfl, rfl, rfl, ?_⟩ | refine ⟨.slice 11 0 0 (0 + roomN 0), [(11, .ints 49 (([] : List Int) ++ padS 3 (roomN 0)))], rfl, rfl, rfl, ?_⟩
                      all_goals first | refine oQ (Q_call0 (hz2 e0) rfl rfl rfl) rfl rfl ?_ | (refine oCall hi [(0, 11)] 2 rfl rfl (Fits.mk' (vHc rfl vHn) rfl rfl (by simp)) rfl rfl ?_; rintro r H1 hR; obtain ⟨k2, sp2, hk2, rfl, rfl⟩ := listO_pos hcd hR; refine ⟨.tuple [.slice 13 0 (stoM p (([] : List Int) ++ padS 3 (roomN 0)) 0).length k2, .int 0], [(11, .ints 49 (([] : List Int) ++ padS 3 (roomN 0))), (13, .ints 49 (RR ++ sp2))], rfl, rfl, rfl, ?_⟩)
                      all_goals first | (refine oM rfl rfl ?_)
                      all_goals first | (refine oQ (Q_extract rfl rfl) rfl rfl ?_)
                      all_goals first | (refine oQ (Q_extract rfl rfl) rfl rfl ?_)
                      all_goals first | (refine oA rfl rfl ?_)
                      all_goals first | (refine oA rfl rfl ?_)
                      all_goals refine oN ?_
                      all_goals (
                       refine CW_seq ?_
                       refine cR ?_
                       iterate 2 refine oM rfl rfl ?_
                       first | refine oQ (Q_call (eqPointS_ns 49 (RR ++ sp0) ((stoM p (([] : List Int) ++ padS 3 (roomN 0)) 0).length) k0 (hN0 e0)) [(0, 3)] rfl rfl (Fits.mk' (vHc rfl vHn) rfl rfl (by simp)) rfl rfl) rfl rfl ?_ | refine oQ (Q_call (eqPointS_same 49 49 RR sp2 sp0 (stoM p (([] : List Int) ++ padS 3 (roomN 0)) 0).length k2 k0 hRL (by omega)) [(0, 13), (1, 3)] rfl rfl (Fits.mk' (vHc rfl (vHc rfl vHn)) rfl rfl (by simp)) rfl rfl) rfl rfl ?_
                       refine oQ (Q_not rfl) rfl rfl ?_
                       refine oM rfl rfl ?_
                       all_goals first | refine oT rfl rfl ?_ | refine o1 rfl rfl rfl ?_ | refine o0 rfl rfl rfl ?_ | refine ogP1 rfl rfl rfl (fun hg => ?_) (fun hg => ?_) | refine ogP0 rfl rfl rfl (fun hg => ?_) (fun hg => ?_)
                       all_goals try simp only [s1, s2, s3, s4, s5, s6, s7, s8, s9, s10, s11, s12] at hg
                       all_goals first | (refine oM rfl rfl ?_) | skip
                       all_goals first | refine oT rfl rfl ?_ | refine o1 rfl rfl rfl ?_ | refine o0 rfl rfl rfl ?_ | refine ogP1 rfl rfl rfl (fun hg => ?_) (fun hg => ?_) | refine ogP0 rfl rfl rfl (fun hg => ?_) (fun hg => ?_)
                       all_goals try simp only [s1, s2, s3, s4, s5, s6, s7, s8, s9, s10, s11, s12] at hg
                       all_goals first | (refine oM rfl rfl ?_) | skip
                       all_goals first | refine oT rfl rfl ?_ | refine o1 rfl rfl rfl ?_ | refine o0 rfl rfl rfl ?_ | refine ogP1 rfl rfl rfl (fun hg => ?_) (fun hg => ?_) | refine ogP0 rfl rfl rfl (fun hg => ?_) (fun hg => ?_)
                       all_goals try simp only [s1, s2, s3, s4, s5, s6, s7, s8, s9, s10, s11, s12] at hg
                       all_goals first | (refine oQ (Q_bin rfl rfl rfl) rfl rfl ?_) | skip
                       all_goals first | refine oQ (Q_pick_t rfl (by with_reducible rfl) rfl rfl) rfl rfl ?_ | refine oQ (Q_pick_f rfl (by with_reducible rfl) rfl rfl) rfl rfl ?_
                       all_goals refine oN ?_
                       all_goals (
                        first | refine cT rfl ?_ | refine cF rfl ?_ | refine CW_cond rfl (fun hc => ?_) (fun hc => ?_)
                        all_goals try simp only [s1, s2, s3, s4, s5, s6, s7, s8, s9, s10, s11, s12] at hc
                        all_goals try (exfalso; first | omega | (simp at hc; done); done)
                        all_goals first
                          | (
                           refine CW_skip ?_)
                          | (
                           refine cR ?_
                           refine oA rfl rfl ?_
                           refine oN ?_
                           refine CW_ret ?_))
                       all_goals first
                         | with_reducible refine tR ?_
                         | with_reducible refine tE ?_
                         | (
                          with_reducible refine tN ?_
                          refine cR ?_
                          refine oA rfl rfl ?_
                          refine oN ?_
                          refine cR ?_
                          iterate 2 refine oM rfl rfl ?_
                          refine oQ (Q_call (heldPointS_con 101 49 ((RR ++ sp1).drop ((stoM p (([] : List Int) ++ padS 3 (roomN 0)) 0).length * 3)) ((stoM p (([] : List Int) ++ padS 3 (roomN 0)) 0).length) k1 (by omega) (by omega)) [(0, 7)] rfl rfl (Fits.mk' (vHc rfl vHn) rfl rfl (by simp)) rfl rfl) rfl rfl ?_
                          refine oA rfl rfl ?_
                          refine oN ?_
                          refine CW_seq ?_
                          refine cR ?_
                          refine oM rfl rfl ?_
                          refine oQ (Q_bin rfl rfl rfl) rfl rfl ?_
                          refine oN ?_
                          first | refine cT rfl ?_ | refine cF rfl ?_ | refine CW_cond rfl (fun hc => ?_) (fun hc => ?_)
                          all_goals try simp only [s1, s2, s3, s4, s5, s6, s7, s8, s9, s10, s11, s12] at hc
                          all_goals try (exfalso; first | omega | (simp at hc; done); done)
                          all_goals first
                            | (
                             refine CW_skip ?_)
                            | (
                             refine cR ?_
                             refine oA rfl rfl ?_
                             refine oN ?_
                             refine CW_ret ?_)
                          all_goals first
                            | with_reducible refine tR ?_
                            | with_reducible refine tE ?_
                            | (
                             with_reducible refine tN ?_
                             refine CW_seq ?_
                             refine cR ?_
                             iterate 2 refine oM rfl rfl ?_
                             refine oQ (Q_bin rfl rfl rfl) rfl rfl ?_
                             refine oN ?_
                             first | refine cT rfl ?_ | refine cF rfl ?_ | refine CW_cond rfl (fun hc => ?_) (fun hc => ?_)
                             all_goals try simp only [s1, s2, s3, s4, s5, s6, s7, s8, s9, s10, s11, s12] at hc
                             all_goals try (exfalso; first | omega | (simp at hc; done); done)
                             all_goals first
                               | (
                                refine CW_skip ?_)
                               | (
                                refine cR ?_
                                refine oA rfl rfl ?_
                                refine oN ?_
                                refine CW_ret ?_)
                             all_goals first
                               | with_reducible refine tR ?_
                               | with_reducible refine tE ?_
                               | (
                                with_reducible refine tN ?_
                                refine cR ?_
                                refine oA rfl rfl ?_
                                refine oN ?_
                                refine CW_ret ?_))))))))))
    all_goals (
     first | ((refine exitQ (.inr rfl) 0 (.cons (.tmp rfl rfl) .nil) ?_ rfl vHn rfl rfl); rfl) | (exfalso; simp at hg; done) | (exfalso; simp_all; done))
  · have hz2 : 0 = 0 → ConQ Try.prog [] 46 [.int p, .nilsl] [] (.tuple [.nilsl, .int (stoCM p (([] : List Int) ++ padS 3 (roomN 0)) 0)]) := fun e => by exact hz
    refine conW tab_ok [(0, .int p), (1, .nilsl)] 0 [] [] Try.func12 rfl rfl rfl rfl rfl rfl rfl rfl rfl ?_
    refine cR ?_
    refine oA rfl rfl ?_
    refine oN ?_
    refine cR ?_
    refine oA rfl rfl ?_
    refine oN ?_
    refine cR ?_
    iterate 2 refine oM rfl rfl ?_
    refine oQ (Q_call0 (szPointS_nil 1000000 rfl) rfl rfl rfl) rfl rfl ?_
    refine oA rfl rfl ?_
    refine oN ?_
    refine CW_seq ?_
    refine cR ?_
    refine oM rfl rfl ?_
    refine oQ (Q_bin rfl rfl rfl) rfl rfl ?_
    refine oN ?_
    first | refine cT rfl ?_ | refine cF rfl ?_ | refine CW_cond rfl (fun hc => ?_) (fun hc => ?_)
    all_goals try simp only [s1, s2, s3, s4, s5, s6, s7, s8, s9, s10, s11, s12] at hc
    all_goals try (exfalso; first | omega | (simp at hc; done); done)
    all_goals first
      | (
       refine CW_skip ?_)
      | (
       refine cR ?_
       refine oA rfl rfl ?_
       refine oN ?_
       refine CW_ret ?_)
    all_goals first
      | with_reducible refine tR ?_
      | with_reducible refine tE ?_
      | (
       with_reducible refine tN ?_
       refine cR ?_
       iterate 2 refine oM rfl rfl ?_
       (have hn : 0 ≤ 1000000 := by omega)
       (have hs := hs hn)
       (have hi := hi hn)
       refine oCall (toPointS_nil false) [] 2 rfl rfl (Fits.mk' vHn rfl rfl (by simp)) rfl rfl ?_
       rintro r H1 hR
       obtain ⟨rfl, rfl⟩ := copyPointR_f hR
       refine ⟨.slice 1 0 0 (0 + roomN 0), [(1, .ints 49 (([] : List Int) ++ padS 3 (roomN 0)))], rfl, rfl, rfl, ?_⟩
       refine oCall (hs) [(0, 1)] 2 rfl rfl (Fits.mk' (vHc rfl vHn) rfl rfl (by simp)) rfl rfl ?_
       rintro r H1 hR
       obtain ⟨rfl, rfl⟩ := listO_neg hcd hR
       refine ⟨.tuple [.nilsl, .int (stoCM p (([] : List Int) ++ padS 3 (roomN 0)) 0)], [(1, .ints 49 (([] : List Int) ++ padS 3 (roomN 0)))], rfl, rfl, rfl, ?_⟩
       refine oM rfl rfl ?_
       iterate 2 refine oQ (Q_extract rfl rfl) rfl rfl ?_
       iterate 2 refine oA rfl rfl ?_
       refine oN ?_
       refine cR ?_
       refine oM rfl rfl ?_
       refine oCall (toPointS_nil false) [] 2 rfl rfl (Fits.mk' vHn rfl rfl (by simp)) rfl rfl ?_
       rintro r H1 hR
       obtain ⟨rfl, rfl⟩ := copyPointR_f hR
       refine ⟨.slice 5 0 0 (0 + roomN 0), [(5, .ints 49 (([] : List Int) ++ padS 3 (roomN 0)))], rfl, rfl, rfl, ?_⟩
       refine oA rfl rfl ?_
       refine oN ?_
       refine cR ?_
       iterate 2 refine oM rfl rfl ?_
       refine oCall (hi) [(0, 5)] 2 rfl rfl (Fits.mk' (vHc rfl vHn) rfl rfl (by simp)) rfl rfl ?_
       rintro r H1 hR
       obtain ⟨rfl, rfl⟩ := listO_neg hcd hR
       refine ⟨.tuple [.nilsl, .int (stoCM p (([] : List Int) ++ padS 3 (roomN 0)) 0)], [(5, .ints 49 (([] : List Int) ++ padS 3 (roomN 0)))], rfl, rfl, rfl, ?_⟩
       refine oM rfl rfl ?_
       iterate 2 refine oQ (Q_extract rfl rfl) rfl rfl ?_
       iterate 2 refine oA rfl rfl ?_
       refine oN ?_
       refine CW_seq ?_
       refine cR ?_
       iterate 2 refine oM rfl rfl ?_
       refine oQ (Q_call0 (eqPointS_nn) rfl rfl rfl) rfl rfl ?_
       refine oQ (Q_not rfl) rfl rfl ?_
       refine oM rfl rfl ?_
       all_goals first | refine oT rfl rfl ?_ | refine o1 rfl rfl rfl ?_ | refine o0 rfl rfl rfl ?_ | refine ogP1 rfl rfl rfl (fun hg => ?_) (fun hg => ?_) | refine ogP0 rfl rfl rfl (fun hg => ?_) (fun hg => ?_)
       all_goals try simp only [s1, s2, s3, s4, s5, s6, s7, s8, s9, s10, s11, s12] at hg
       all_goals first | (refine oM rfl rfl ?_) | skip
       all_goals first | refine oT rfl rfl ?_ | refine o1 rfl rfl rfl ?_ | refine o0 rfl rfl rfl ?_ | refine ogP1 rfl rfl rfl (fun hg => ?_) (fun hg => ?_) | refine ogP0 rfl rfl rfl (fun hg => ?_) (fun hg => ?_)
       all_goals try simp only [s1, s2, s3, s4, s5, s6, s7, s8, s9, s10, s11, s12] at hg
       all_goals first | (refine oM rfl rfl ?_) | skip
       all_goals first | refine oT rfl rfl ?_ | refine o1 rfl rfl rfl ?_ | refine o0 rfl rfl rfl ?_ | refine ogP1 rfl rfl rfl (fun hg => ?_) (fun hg => ?_) | refine ogP0 rfl rfl rfl (fun hg => ?_) (fun hg => ?_)
       all_goals try simp only [s1, s2, s3, s4, s5, s6, s7, s8, s9, s10, s11, s12] at hg
       all_goals first | (refine oQ (Q_bin rfl rfl rfl) rfl rfl ?_) | skip
       all_goals first | refine oQ (Q_pick_t rfl (by with_reducible rfl) rfl rfl) rfl rfl ?_ | refine oQ (Q_pick_f rfl (by with_reducible rfl) rfl rfl) rfl rfl ?_
       all_goals refine oN ?_
       all_goals (
        first | refine cT rfl ?_ | refine cF rfl ?_ | refine CW_cond rfl (fun hc => ?_) (fun hc => ?_)
        all_goals try simp only [s1, s2, s3, s4, s5, s6, s7, s8, s9, s10, s11, s12] at hc
        all_goals try (exfalso; first | omega | (simp at hc; done); done)
        all_goals first
          | (
           refine CW_skip ?_)
          | (
           refine cR ?_
           refine oA rfl rfl ?_
           refine oN ?_
           refine CW_ret ?_))
       all_goals first
         | with_reducible refine tR ?_
         | with_reducible refine tE ?_
         | (
          with_reducible refine tN ?_
          refine CW_seq ?_
          refine cR ?_
          iterate 2 refine oM rfl rfl ?_
          refine oCall (toPointS_nil false) [] 2 rfl rfl (Fits.mk' vHn rfl rfl (by simp)) rfl rfl ?_
          rintro r H1 hR
          obtain ⟨rfl, rfl⟩ := copyPointR_f hR
          refine ⟨.slice 9 0 0 (0 + roomN 0), [(9, .ints 49 (([] : List Int) ++ padS 3 (roomN 0)))], rfl, rfl, rfl, ?_⟩
          refine oQ (Q_call (intactPointS_con 49 49 (([] : List Int) ++ padS 3 (roomN 0)) (([] : List Int) ++ padS 3 (roomN 0)) 0 (by rw [List.length_append, List.length_nil, hpl, Nat.add_mul]) (by rw [List.length_append, List.length_nil, hpl, Nat.add_mul]) (by omega)) [(0, 5), (1, 9)] rfl rfl (Fits.mk' (vHc rfl (vHc rfl vHn)) rfl rfl (by simp)) rfl rfl) rfl rfl ?_
          refine oQ (Q_not rfl) rfl rfl ?_
          refine oN ?_
          first | refine cT rfl ?_ | refine cF rfl ?_ | refine CW_cond rfl (fun hc => ?_) (fun hc => ?_)
          all_goals try simp only [s1, s2, s3, s4, s5, s6, s7, s8, s9, s10, s11, s12] at hc
          all_goals try (exfalso; first | omega | (simp at hc; done); done)
          all_goals first
            | (
             refine CW_skip ?_)
            | (
             refine cR ?_
             refine oA rfl rfl ?_
             refine oN ?_
             refine CW_ret ?_)
          all_goals first
            | with_reducible refine tR ?_
            | with_reducible refine tE ?_
            | (
             with_reducible refine tN ?_
             refine cR ?_
             refine oA rfl rfl ?_
             refine oN ?_
             refine cR ?_
             iterate 2 refine oM rfl rfl ?_
             refine oCall (markPointS_con 101 49 (([] : List Int) ++ padS 3 (roomN 0)) 0 (0 + roomN 0) (by simp <;> omega) (by omega) (by omega)) [(0, 5)] 0 rfl rfl (Fits.mk' (vHc rfl vHn) rfl rfl (by simp)) rfl rfl ?_
             rintro r H1 ⟨rfl, rfl⟩
             refine ⟨.int ((101 + 0 * 3 : Nat) : Int), [(5, .ints 49 (seqL 101 (0 * 3) ++ (([] : List Int) ++ padS 3 (roomN 0)).drop (0 * 3)))], rfl, rfl, rfl, ?_⟩
             refine oA rfl rfl ?_
             refine oN ?_
             refine CW_seq ?_
             refine cR ?_
             refine oM rfl rfl ?_
             refine oQ (Q_bin rfl rfl rfl) rfl rfl ?_
             refine oM rfl rfl ?_
             all_goals first | refine oT rfl rfl ?_ | refine o1 rfl rfl rfl ?_ | refine o0 rfl rfl rfl ?_ | refine ogP1 rfl rfl rfl (fun hg => ?_) (fun hg => ?_) | refine ogP0 rfl rfl rfl (fun hg => ?_) (fun hg => ?_)
             all_goals try simp only [s1, s2, s3, s4, s5, s6, s7, s8, s9, s10, s11, s12] at hg
             all_goals first | (refine oM rfl rfl ?_) | skip
             all_goals first | refine oT rfl rfl ?_ | refine o1 rfl rfl rfl ?_ | refine o0 rfl rfl rfl ?_ | refine ogP1 rfl rfl rfl (fun hg => ?_) (fun hg => ?_) | refine ogP0 rfl rfl rfl (fun hg => ?_) (fun hg => ?_)
             all_goals try simp only [s1, s2, s3, s4, s5, s6, s7, s8, s9, s10, s11, s12] at hg
             all_goals first | (refine oM rfl rfl ?_) | skip
             all_goals first | refine oT rfl rfl ?_ | refine o1 rfl rfl rfl ?_ | refine o0 rfl rfl rfl ?_ | refine ogP1 rfl rfl rfl (fun hg => ?_) (fun hg => ?_) | refine ogP0 rfl rfl rfl (fun hg => ?_) (fun hg => ?_)
             all_goals try simp only [s1, s2, s3, s4, s5, s6, s7, s8, s9, s10, s11, s12] at hg
             all_goals first | (refine oQ (Q_call0 (eqPointS_nn) rfl rfl rfl) rfl rfl ?_) | skip
             all_goals first | refine oT rfl rfl ?_ | refine o1 rfl rfl rfl ?_ | refine o0 rfl rfl rfl ?_ | refine ogP1 rfl rfl rfl (fun hg => ?_) (fun hg => ?_) | refine ogP0 rfl rfl rfl (fun hg => ?_) (fun hg => ?_)
             all_goals try simp only [s1, s2, s3, s4, s5, s6, s7, s8, s9, s10, s11, s12] at hg
             all_goals first | (refine oQ (Q_not rfl) rfl rfl ?_) | skip
             all_goals first | refine oQ (Q_pick_t rfl (by with_reducible rfl) rfl rfl) rfl rfl ?_ | refine oQ (Q_pick_f rfl (by with_reducible rfl) rfl rfl) rfl rfl ?_
             all_goals first | (refine oM rfl rfl ?_)
             all_goals first | refine oT rfl rfl ?_ | refine o1 rfl rfl rfl ?_ | refine o0 rfl rfl rfl ?_ | refine ogP1 rfl rfl rfl (fun hg => ?_) (fun hg => ?_) | refine ogP0 rfl rfl rfl (fun hg => ?_) (fun hg => ?_)
             all_goals try simp only [s1, s2, s3, s4, s5, s6, s7, s8, s9, s10, s11, s12] at hg
             all_goals first | (refine oM rfl rfl ?_) | skip
             all_goals first | refine oT rfl rfl ?_ | refine o1 rfl rfl rfl ?_ | refine o0 rfl rfl rfl ?_ | refine ogP1 rfl rfl rfl (fun hg => ?_) (fun hg => ?_) | refine ogP0 rfl rfl rfl (fun hg => ?_) (fun hg => ?_)
             all_goals try simp only [s1, s2, s3, s4, s5, s6, s7, s8, s9, s10, s11, s12] at hg
             all_goals first | (refine oM rfl rfl ?_) | skip
             all_goals first | refine oT rfl rfl ?_ | refine o1 rfl rfl rfl ?_ | refine o0 rfl rfl rfl ?_ | refine ogP1 rfl rfl rfl (fun hg => ?_) (fun hg => ?_) | refine ogP0 rfl rfl rfl (fun hg => ?_) (fun hg => ?_)
             all_goals try simp only [s1, s2, s3, s4, s5, s6, s7, s8, s9, s10, s11, s12] at hg
             all_goals first | (refine oQ (Q_bin rfl rfl rfl) rfl rfl ?_) | skip
             all_goals first | refine oQ (Q_pick_t rfl (by with_reducible rfl) rfl rfl) rfl rfl ?_ | refine oQ (Q_pick_f rfl (by with_reducible rfl) rfl rfl) rfl rfl ?_
             all_goals refine oN ?_
             all_goals (
              first | refine cT rfl ?_ | refine cF rfl ?_ | refine CW_cond rfl (fun hc => ?_) (fun hc => ?_)
              all_goals try simp only [s1, s2, s3, s4, s5, s6, s7, s8, s9, s10, s11, s12] at hc
              all_goals try (exfalso; first | omega | (simp at hc; done); done)
              all_goals first
                | (
                 refine CW_skip ?_)
                | (
                 refine cR ?_
                 refine oA rfl rfl ?_
                 refine oN ?_
                 refine CW_ret ?_))
             all_goals first
               | with_reducible refine tR ?_
               | with_reducible refine tE ?_
               | (
                with_reducible refine tN ?_
                refine cR ?_
                refine oA rfl rfl ?_
                refine oN ?_
                refine cR ?_
                iterate 2 refine oM rfl rfl ?_
                refine oQ (Q_call0 (markPointS_nil 101) rfl rfl rfl) rfl rfl ?_
                refine oA rfl rfl ?_
                refine oN ?_
                refine cR ?_
                refine oA rfl rfl ?_
                refine oN ?_
                refine cR ?_
                iterate 2 refine oM rfl rfl ?_
                refine oQ (Q_call0 (heldPointS_nil 101) rfl rfl rfl) rfl rfl ?_
                refine oA rfl rfl ?_
                refine oN ?_
                refine CW_seq ?_
                refine cR ?_
                refine oM rfl rfl ?_
                refine oQ (Q_bin rfl rfl rfl) rfl rfl ?_
                refine oN ?_
                first | refine cT rfl ?_ | refine cF rfl ?_ | refine CW_cond rfl (fun hc => ?_) (fun hc => ?_)
                all_goals try simp only [s1, s2, s3, s4, s5, s6, s7, s8, s9, s10, s11, s12] at hc
                all_goals try (exfalso; first | omega | (simp at hc; done); done)
                all_goals first
                  | (
                   refine CW_skip ?_)
                  | (
                   refine cR ?_
                   refine oA rfl rfl ?_
                   refine oN ?_
                   refine CW_ret ?_)
                all_goals first
                  | with_reducible refine tR ?_
                  | with_reducible refine tE ?_
                  | (
                   with_reducible refine tN ?_
                   refine CW_seq ?_
                   refine cR ?_
                   iterate 2 refine oM rfl rfl ?_
                   refine oQ (Q_bin rfl rfl rfl) rfl rfl ?_
                   refine oN ?_
                   first | refine cT rfl ?_ | refine cF rfl ?_ | refine CW_cond rfl (fun hc => ?_) (fun hc => ?_)
                   all_goals try simp only [s1, s2, s3, s4, s5, s6, s7, s8, s9, s10, s11, s12] at hc
                   all_goals try (exfalso; first | omega | (simp at hc; done); done)
                   all_goals first
                     | (
                      refine CW_skip ?_)
                     | (
                      refine cR ?_
                      refine oA rfl rfl ?_
                      refine oN ?_
                      refine CW_ret ?_)
                   all_goals first
                     | with_reducible refine tR ?_
                     | with_reducible refine tE ?_
                     | (
                      with_reducible refine tN ?_
                      refine cR ?_
                      iterate 2 refine oM rfl rfl ?_
                      refine oCall (toPointS_nil true) [] 2 rfl rfl (Fits.mk' vHn rfl rfl (by simp)) rfl rfl ?_
                      rintro r H1 hR
                      rcases copyPointR_t hR with ⟨e0, rfl, rfl⟩ | ⟨rfl, rfl⟩
                      all_goals first | refine ⟨.nilsl, [], rfl, rfl, rfl, ?_⟩ | refine ⟨.slice 11 0 0 (0 + roomN 0), [(11, .ints 49 (([] : List Int) ++ padS 3 (roomN 0)))], rfl, rfl, rfl, ?_⟩
                      all_goals first | refine oQ (Q_call0 (hz2 e0) rfl rfl rfl) rfl rfl ?_ | (refine oCall hi [(0, 11)] 2 rfl rfl (Fits.mk' (vHc rfl vHn) rfl rfl (by simp)) rfl rfl ?_; rintro r H1 hR; obtain ⟨rfl, rfl⟩ := listO_neg hcd hR; refine ⟨.tuple [.nilsl, .int (stoCM p (([] : List Int) ++ padS 3 (roomN 0)) 0)], [(11, .ints 49 (([] : List Int) ++ padS 3 (roomN 0)))], rfl, rfl, rfl, ?_⟩)
                      all_goals first | (refine oM rfl rfl ?_)
                      all_goals first | (refine oQ (Q_extract rfl rfl) rfl rfl ?_)
                      all_goals first | (refine oQ (Q_extract rfl rfl) rfl rfl ?_)
                      all_goals first | (refine oA rfl rfl ?_)
                      all_goals first | (refine oA rfl rfl ?_)
                      all_goals refine oN ?_
                      all_goals (
                       refine CW_seq ?_
                       refine cR ?_
                       iterate 2 refine oM rfl rfl ?_
                       refine oQ (Q_call0 (eqPointS_nn) rfl rfl rfl) rfl rfl ?_
                       refine oQ (Q_not rfl) rfl rfl ?_
                       refine oM rfl rfl ?_
                       all_goals first | refine oT rfl rfl ?_ | refine o1 rfl rfl rfl ?_ | refine o0 rfl rfl rfl ?_ | refine ogP1 rfl rfl rfl (fun hg => ?_) (fun hg => ?_) | refine ogP0 rfl rfl rfl (fun hg => ?_) (fun hg => ?_)
                       all_goals try simp only [s1, s2, s3, s4, s5, s6, s7, s8, s9, s10, s11, s12] at hg
                       all_goals first | (refine oM rfl rfl ?_) | skip
                       all_goals first | refine oT rfl rfl ?_ | refine o1 rfl rfl rfl ?_ | refine o0 rfl rfl rfl ?_ | refine ogP1 rfl rfl rfl (fun hg => ?_) (fun hg => ?_) | refine ogP0 rfl rfl rfl (fun hg => ?_) (fun hg => ?_)
                       all_goals try simp only [s1, s2, s3, s4, s5, s6, s7, s8, s9, s10, s11, s12] at hg
                       all_goals first | (refine oM rfl rfl ?_) | skip
                       all_goals first | refine oT rfl rfl ?_ | refine o1 rfl rfl rfl ?_ | refine o0 rfl rfl rfl ?_ | refine ogP1 rfl rfl rfl (fun hg => ?_) (fun hg => ?_) | refine ogP0 rfl rfl rfl (fun hg => ?_) (fun hg => ?_)
                       all_goals try simp only [s1, s2, s3, s4, s5, s6, s7, s8, s9, s10, s11, s12] at hg
                       all_goals first | (refine oQ (Q_bin rfl rfl rfl) rfl rfl ?_) | skip
                       all_goals first | refine oQ (Q_pick_t rfl (by with_reducible rfl) rfl rfl) rfl rfl ?_ | refine oQ (Q_pick_f rfl (by with_reducible rfl) rfl rfl) rfl rfl ?_
                       all_goals refine oN ?_
                       all_goals (
                        first | refine cT rfl ?_ | refine cF rfl ?_ | refine CW_cond rfl (fun hc => ?_) (fun hc => ?_)
                        all_goals try simp only [s1, s2, s3, s4, s5, s6, s7, s8, s9, s10, s11, s12] at hc
                        all_goals try (exfalso; first | omega | (simp at hc; done); done)
                        all_goals first
                          | (
                           refine CW_skip ?_)
                          | (
                           refine cR ?_
                           refine oA rfl rfl ?_
                           refine oN ?_
                           refine CW_ret ?_))
                       all_goals first
                         | with_reducible refine tR ?_
                         | with_reducible refine tE ?_
                         | (
                          with_reducible refine tN ?_
                          refine cR ?_
                          refine oA rfl rfl ?_
                          refine oN ?_
                          refine cR ?_
                          iterate 2 refine oM rfl rfl ?_
                          refine oQ (Q_call0 (heldPointS_nil 101) rfl rfl rfl) rfl rfl ?_
                          refine oA rfl rfl ?_
                          refine oN ?_
                          refine CW_seq ?_
                          refine cR ?_
                          refine oM rfl rfl ?_
                          refine oQ (Q_bin rfl rfl rfl) rfl rfl ?_
                          refine oN ?_
                          first | refine cT rfl ?_ | refine cF rfl ?_ | refine CW_cond rfl (fun hc => ?_) (fun hc => ?_)
                          all_goals try simp only [s1, s2, s3, s4, s5, s6, s7, s8, s9, s10, s11, s12] at hc
                          all_goals try (exfalso; first | omega | (simp at hc; done); done)
                          all_goals first
                            | (
                             refine CW_skip ?_)
                            | (
                             refine cR ?_
                             refine oA rfl rfl ?_
                             refine oN ?_
                             refine CW_ret ?_)
                          all_goals first
                            | with_reducible refine tR ?_
                            | with_reducible refine tE ?_
                            | (
                             with_reducible refine tN ?_
                             refine CW_seq ?_
                             refine cR ?_
                             iterate 2 refine oM rfl rfl ?_
                             refine oQ (Q_bin rfl rfl rfl) rfl rfl ?_
                             refine oN ?_
                             first | refine cT rfl ?_ | refine cF rfl ?_ | refine CW_cond rfl (fun hc => ?_) (fun hc => ?_)
                             all_goals try simp only [s1, s2, s3, s4, s5, s6, s7, s8, s9, s10, s11, s12] at hc
                             all_goals try (exfalso; first | omega | (simp at hc; done); done)
                             all_goals first
                               | (
                                refine CW_skip ?_)
                               | (
                                refine cR ?_
                                refine oA rfl rfl ?_
                                refine oN ?_
                                refine CW_ret ?_)
                             all_goals first
                               | with_reducible refine tR ?_
                               | with_reducible refine tE ?_
                               | (
                                with_reducible refine tN ?_
                                refine cR ?_
                                refine oA rfl rfl ?_
                                refine oN ?_
                                refine CW_ret ?_))))))))))
    all_goals (
     first | ((refine exitQ (.inr rfl) 0 (.cons (.tmp rfl rfl) .nil) ?_ rfl vHn rfl rfl); rfl) | (exfalso; simp at hg; done) | (exfalso; simp_all; done))
end Go.Proofs.Ytmcmbpoebhjecaa
