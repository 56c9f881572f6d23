/- What the last text of MoebiusOf needs, part 7: contracts of functions and plain mathematics. No conditions beyond those each theorem states. -/
import Derived.Test.YtchikadcicecoaaBMoebiusOfF
namespace Go.Proofs.Ytchikadcicecoaa
set_option maxRecDepth 10000
set_option linter.unusedSimpArgs false
set_option linter.unusedVariables false
theorem cpR_f {t : TypeId} {H0 : Hp} {l : List Int} {n : Nat} {m : List Int} {r : V} {H' : Hp} (h : copyR t H0 l n m false r H') : r = .slice 1 0 n (n + roomN n) ∧ H' = H0 ++ [(1, .ints t (l ++ m))] := by
  unfold copyR at h
  rwa [if_neg (by simp)] at h
theorem cpR_t {t : TypeId} {H0 : Hp} {l : List Int} {n : Nat} {m : List Int} {r : V} {H' : Hp} (h : copyR t H0 l n m true r H') : n = 0 ∧ r = .nilsl ∧ H' = H0 ∨ r = .slice 1 0 n (n + roomN n) ∧ H' = H0 ++ [(1, .ints t (l ++ m))] := by
  unfold copyR at h
  split at h
  · rename_i h'; exact .inl ⟨by simpa using h', h.1, h.2⟩
  · exact .inr h
attribute [local irreducible] CW OW QW QOp Con thenP inBlockP AW QX RW AX
theorem three_form {A : List Int} (h : 3 ≤ A.length) : ∃ x y z r, A = x :: y :: z :: r := by
  match A, h with
  | x :: y :: z :: r, _ => exact ⟨x, y, z, r, rfl⟩
theorem mo_both (p : Int) (A B : List Int) (n m k0 k1 : Nat) (hA : n ≤ A.length) (hB : m ≤ B.length) (hn : n ≤ 1000000) (hm : m ≤ 1000000) (hk0 : n ≤ k0) (hk1 : m ≤ k1) : ∃ (v : List Int) (e : Int), v.length = 4 ∧
    ConQ Try.prog [] 8 [.int p, .slice 0 0 n k0, .slice 1 0 m k1] [(0, .ints 2 A), (1, .ints 2 B)] (.tuple [.arr v, .int e]) ∧
    ConQ Try.prog [] 10 [.int p, .slice 0 0 n k0, .slice 1 0 m k1] [(0, .ints 2 A), (1, .ints 2 B)] (.tuple [.arr v, .int e]) ∧ (n = 0 ∨ m = 0 → v = [0, 0, 0, 0] ∧ e = 2) := by
  by_cases h3 : primeB p = true ∧ n = 3 ∧ m = 3
  · obtain ⟨hp, rfl, rfl⟩ := h3
    obtain ⟨x, y, z, ra, rfl⟩ := three_form hA
    obtain ⟨u, v, w, rb, rfl⟩ := three_form hB
    by_cases hbad : moBad p (x :: y :: z :: ra) (u :: v :: w :: rb) 3 3
    · exact ⟨[0, 0, 0, 0], 2, rfl, spec_Mo_bad3 p x y z u v w ra rb _ _ k0 k1 hbad hp, impl_Mo_bad p _ _ 3 3 _ _ k0 k1 hA hB hn hm hk0 hk1 hbad, fun _ => ⟨rfl, rfl⟩⟩
    · have hok : difB (x :: y :: z :: ra) 3 = true ∧ placesB p [x, y, z] = true ∧ difB (u :: v :: w :: rb) 3 = true ∧ placesB p [u, v, w] = true := by
        have h := Decidable.not_not.1 hbad
        exact ⟨h.2.2.2.1, h.2.2.2.2.1, h.2.2.2.2.2.1, h.2.2.2.2.2.2⟩
      obtain ⟨g1, g2, g3, g4⟩ := hok
      have hb := prime_bd hp
      rw [difB_three] at g1 g3
      simp only [placesB, List.all_cons, List.all_nil, Bool.and_true, Bool.and_eq_true, decide_eq_true_eq] at g2 g4
      obtain ⟨n, rfl⟩ : ∃ n : Nat, p = (n : Int) := ⟨p.toNat, by omega⟩
      obtain ⟨a, rfl⟩ : ∃ n : Nat, x = (n : Int) := ⟨x.toNat, by omega⟩
      obtain ⟨b, rfl⟩ : ∃ n : Nat, y = (n : Int) := ⟨y.toNat, by omega⟩
      obtain ⟨c, rfl⟩ : ∃ n : Nat, z = (n : Int) := ⟨z.toNat, by omega⟩
      obtain ⟨d, rfl⟩ : ∃ n : Nat, u = (n : Int) := ⟨u.toNat, by omega⟩
      obtain ⟨e, rfl⟩ : ∃ n : Nat, v = (n : Int) := ⟨v.toNat, by omega⟩
      obtain ⟨f, rfl⟩ : ∃ n : Nat, w = (n : Int) := ⟨w.toNat, by omega⟩
      have q1 : a ≠ b ∧ a ≠ c ∧ b ≠ c := ⟨by omega, by omega, by omega⟩
      have q2 : d ≠ e ∧ d ≠ f ∧ e ≠ f := ⟨by omega, by omega, by omega⟩
      obtain ⟨w, w1, w2, ⟨w3, w4, w5⟩, w6⟩ := mo_N hp (a := a) (b := b) (c := c) (d := d) (e := e) (f := f) (by omega) (by omega) (by omega) (by omega) (by omega) (by omega) q1.1 q1.2.1 q1.2.2 q2.1 q2.2.1 q2.2.2
      have hfm : fM n (gM n a b c d e f) = some w := fM_uniq hp w2 (by simp [gM, w3, w4, w5]) (fun m hm hg => by
        simp only [gM, Bool.and_eq_true, decide_eq_true_eq] at hg
        exact w6 m hm hg.1.1 hg.1.2 hg.2)
      have hsp := spec_Mo_ok n a b c d e f 2 2 ra rb k0 k1 hk0 hk1 hp (by omega) (by omega) (by omega) (by omega) (by omega) (by omega) q1 q2
      rw [w1] at hsp
      exact ⟨_, _, toM_len w, hsp, impl_Mo_ok n a b c d e f w _ _ ra rb k0 k1 hk0 hk1 hp (by omega) (by omega) (by omega) (by omega) (by omega) (by omega) q1 q2 hfm, fun h => by omega⟩
  · refine ⟨[0, 0, 0, 0], 2, rfl, spec_Mo_badn p A B n m _ _ k0 k1 h3, impl_Mo_bad p A B n m _ _ k0 k1 hA hB hn hm hk0 hk1 (fun h => h3 ⟨h.1, h.2.1, h.2.2.1⟩), fun _ => ⟨rfl, rfl⟩⟩
theorem law_FnExactMoebiusOf_rr (p : Int) (l : List Int) (o n k : Nat) (hl : l.length = n) (hnn : n ≤ 1000000000000000) (l2 : List Int) (o2 m k2 : Nat) (hl2 : l2.length = m) (hmm : m ≤ 1000000000000000) : ConQ Try.prog [] 4 [.int p, .slice 0 o n k, .slice 1 o2 m k2] [(0, .ro o l), (1, .ro o2 l2)] (.bool true) := by
  have hr1 := roomN_le n
  have hr2 := roomN_le m
  by_cases hbig : 1000000 < ((n : Nat) : Int) + ((m : Nat) : Int)
  · skip
    refine conW tab_ok [(0, .int p), (1, .slice 0 o n k), (2, .slice 1 o2 m k2)] 2 [0, 1] [] Try.func4 rfl rfl rfl rfl rfl rfl rfl rfl rfl ?_
    refine cR ?_
    refine oA rfl rfl ?_
    refine oN ?_
    refine CW_seq ?_
    refine cR ?_
    refine oM rfl rfl ?_
    first | refine oQ (Q_len rfl rfl rfl rfl) rfl rfl ?_ | refine oQ (Q_len0 rfl rfl rfl rfl) rfl rfl ?_
    refine oM rfl rfl ?_
    first | refine oQ (Q_len rfl rfl rfl rfl) rfl rfl ?_ | refine oQ (Q_len0 rfl rfl rfl rfl) rfl rfl ?_
    first | refine oQ (Q_binu rfl rfl rfl (by omega)) rfl rfl ?_ | refine oQ (Q_bin rfl rfl rfl) rfl rfl ?_
    refine oQ (Q_bin rfl rfl rfl) rfl rfl ?_
    refine oN ?_
    first | refine cT rfl ?_ | refine cF rfl ?_ | refine CW_cond rfl (fun hc => ?_) (fun hc => ?_)
    all_goals try simp only [s1, s2, s3, s4, s5, s6, s7, s8, s9, s10, s11, s12] at hc
    all_goals try (exfalso; first | omega | (simp at hc; done); done)
    all_goals first
      | (
       refine CW_skip ?_)
      | (
       refine cR ?_
       refine oA rfl rfl ?_
       refine oN ?_
       refine CW_ret ?_)
    all_goals first
      | with_reducible refine tR ?_
      | with_reducible refine tE ?_
      | (
       with_reducible refine tN ?_
       refine cR ?_
       iterate 2 refine oM rfl rfl ?_
       (exfalso; omega)
       refine oM rfl rfl ?_
       fail "call of loop.example/g01310/laws.toInt64S at slot 26"
       fail "call of loop.example/g01310/spec.MoebiusOf at slot 27"
       refine oM rfl rfl ?_
       iterate 2 refine oQ (Q_extract rfl rfl) rfl rfl ?_
       refine oAlloc rfl rfl rfl rfl rfl rfl rfl ?_
       first | refine oSw rfl rfl rfl rfl ?_ | refine oSa rfl rfl rfl rfl ?_
       refine oA rfl rfl ?_
       refine oN ?_
       refine cR ?_
       refine oM rfl rfl ?_
       fail "call of loop.example/g01310/laws.toInt64S at slot 31"
       refine oA rfl rfl ?_
       refine oN ?_
       refine cR ?_
       refine oM rfl rfl ?_
       fail "call of loop.example/g01310/laws.toInt64S at slot 33"
       refine oA rfl rfl ?_
       refine oN ?_
       refine cR ?_
       iterate 3 refine oM rfl rfl ?_
       fail "call of loop.example/g01310/impl.MoebiusOf at slot 38"
       refine oM rfl rfl ?_
       iterate 2 refine oQ (Q_extract rfl rfl) rfl rfl ?_
       refine oAlloc rfl rfl rfl rfl rfl rfl rfl ?_
       first | refine oSw rfl rfl rfl rfl ?_ | refine oSa rfl rfl rfl rfl ?_
       refine oA rfl rfl ?_
       refine oN ?_
       refine CW_seq ?_
       refine cR ?_
       first | refine oQ (Lw rfl rfl rfl rfl) rfl rfl ?_ | refine oQ (La rfl rfl rfl rfl rfl) rfl rfl ?_
       first | refine oQ (Lw rfl rfl rfl rfl) rfl rfl ?_ | refine oQ (La rfl rfl rfl rfl rfl) rfl rfl ?_
       fail "call of loop.example/g01310/laws.eqMoebius at slot 43"
       refine oQ (Q_not rfl) rfl rfl ?_
       refine oM rfl rfl ?_
       all_goals first | refine oT rfl rfl ?_ | refine o1 rfl rfl rfl ?_ | refine o0 rfl rfl rfl ?_ | refine ogP1 rfl rfl rfl (fun hg => ?_) (fun hg => ?_) | refine ogP0 rfl rfl rfl (fun hg => ?_) (fun hg => ?_)
       all_goals try simp only [s1, s2, s3, s4, s5, s6, s7, s8, s9, s10, s11, s12] at hg
       all_goals first | (refine oM rfl rfl ?_) | skip
       all_goals first | refine oT rfl rfl ?_ | refine o1 rfl rfl rfl ?_ | refine o0 rfl rfl rfl ?_ | refine ogP1 rfl rfl rfl (fun hg => ?_) (fun hg => ?_) | refine ogP0 rfl rfl rfl (fun hg => ?_) (fun hg => ?_)
       all_goals try simp only [s1, s2, s3, s4, s5, s6, s7, s8, s9, s10, s11, s12] at hg
       all_goals first | (refine oM rfl rfl ?_) | skip
       all_goals first | refine oT rfl rfl ?_ | refine o1 rfl rfl rfl ?_ | refine o0 rfl rfl rfl ?_ | refine ogP1 rfl rfl rfl (fun hg => ?_) (fun hg => ?_) | refine ogP0 rfl rfl rfl (fun hg => ?_) (fun hg => ?_)
       all_goals try simp only [s1, s2, s3, s4, s5, s6, s7, s8, s9, s10, s11, s12] at hg
       all_goals first | (refine oQ (Q_bin rfl rfl rfl) rfl rfl ?_) | skip
       all_goals first | refine oQ (Q_pick_t rfl (by with_reducible rfl) rfl rfl) rfl rfl ?_ | refine oQ (Q_pick_f rfl (by with_reducible rfl) rfl rfl) rfl rfl ?_
       all_goals refine oN ?_
       all_goals (
        first | refine cT rfl ?_ | refine cF rfl ?_ | refine CW_cond rfl (fun hc => ?_) (fun hc => ?_)
        all_goals try simp only [s1, s2, s3, s4, s5, s6, s7, s8, s9, s10, s11, s12] at hc
        all_goals try (exfalso; first | omega | (simp at hc; done); done)
        all_goals first
          | (
           refine CW_skip ?_)
          | (
           refine cR ?_
           refine oA rfl rfl ?_
           refine oN ?_
           refine CW_ret ?_))
       all_goals first
         | with_reducible refine tR ?_
         | with_reducible refine tE ?_
         | (
          with_reducible refine tN ?_
          refine CW_seq ?_
          refine cR ?_
          iterate 2 refine oM rfl rfl ?_
          fail "call of loop.example/g01310/laws.toInt64S at slot 52"
          fail "call of loop.example/g01310/laws.intactInt64S at slot 53"
          refine oQ (Q_not rfl) rfl rfl ?_
          refine oN ?_
          first | refine cT rfl ?_ | refine cF rfl ?_ | refine CW_cond rfl (fun hc => ?_) (fun hc => ?_)
          all_goals try simp only [s1, s2, s3, s4, s5, s6, s7, s8, s9, s10, s11, s12] at hc
          all_goals try (exfalso; first | omega | (simp at hc; done); done)
          all_goals first
            | (
             refine CW_skip ?_)
            | (
             refine cR ?_
             refine oA rfl rfl ?_
             refine oN ?_
             refine CW_ret ?_)
          all_goals first
            | with_reducible refine tR ?_
            | with_reducible refine tE ?_
            | (
             with_reducible refine tN ?_
             refine CW_seq ?_
             refine cR ?_
             iterate 2 refine oM rfl rfl ?_
             fail "call of loop.example/g01310/laws.toInt64S at slot 57"
             fail "call of loop.example/g01310/laws.intactInt64S at slot 58"
             refine oQ (Q_not rfl) rfl rfl ?_
             refine oN ?_
             first | refine cT rfl ?_ | refine cF rfl ?_ | refine CW_cond rfl (fun hc => ?_) (fun hc => ?_)
             all_goals try simp only [s1, s2, s3, s4, s5, s6, s7, s8, s9, s10, s11, s12] at hc
             all_goals try (exfalso; first | omega | (simp at hc; done); done)
             all_goals first
               | (
                refine CW_skip ?_)
               | (
                refine cR ?_
                refine oA rfl rfl ?_
                refine oN ?_
                refine CW_ret ?_)
             all_goals first
               | with_reducible refine tR ?_
               | with_reducible refine tE ?_
               | (
                with_reducible refine tN ?_
                refine cR ?_
                iterate 2 refine oM rfl rfl ?_
                fail "call of loop.example/g01310/laws.toInt64S at slot 63"
                refine oM rfl rfl ?_
                fail "call of loop.example/g01310/laws.toInt64S at slot 65"
                fail "call of loop.example/g01310/impl.MoebiusOf at slot 66"
                refine oM rfl rfl ?_
                iterate 2 refine oQ (Q_extract rfl rfl) rfl rfl ?_
                refine oAlloc rfl rfl rfl rfl rfl rfl rfl ?_
                first | refine oSw rfl rfl rfl rfl ?_ | refine oSa rfl rfl rfl rfl ?_
                refine oA rfl rfl ?_
                refine oN ?_
                refine CW_seq ?_
                refine cR ?_
                first | refine oQ (Lw rfl rfl rfl rfl) rfl rfl ?_ | refine oQ (La rfl rfl rfl rfl rfl) rfl rfl ?_
                first | refine oQ (Lw rfl rfl rfl rfl) rfl rfl ?_ | refine oQ (La rfl rfl rfl rfl rfl) rfl rfl ?_
                fail "call of loop.example/g01310/laws.eqMoebius at slot 71"
                refine oQ (Q_not rfl) rfl rfl ?_
                refine oM rfl rfl ?_
                all_goals first | refine oT rfl rfl ?_ | refine o1 rfl rfl rfl ?_ | refine o0 rfl rfl rfl ?_ | refine ogP1 rfl rfl rfl (fun hg => ?_) (fun hg => ?_) | refine ogP0 rfl rfl rfl (fun hg => ?_) (fun hg => ?_)
                all_goals try simp only [s1, s2, s3, s4, s5, s6, s7, s8, s9, s10, s11, s12] at hg
                all_goals first | (refine oM rfl rfl ?_) | skip
                all_goals first | refine oT rfl rfl ?_ | refine o1 rfl rfl rfl ?_ | refine o0 rfl rfl rfl ?_ | refine ogP1 rfl rfl rfl (fun hg => ?_) (fun hg => ?_) | refine ogP0 rfl rfl rfl (fun hg => ?_) (fun hg => ?_)
                all_goals try simp only [s1, s2, s3, s4, s5, s6, s7, s8, s9, s10, s11, s12] at hg
                all_goals first | (refine oM rfl rfl ?_) | skip
                all_goals first | refine oT rfl rfl ?_ | refine o1 rfl rfl rfl ?_ | refine o0 rfl rfl rfl ?_ | refine ogP1 rfl rfl rfl (fun hg => ?_) (fun hg => ?_) | refine ogP0 rfl rfl rfl (fun hg => ?_) (fun hg => ?_)
                all_goals try simp only [s1, s2, s3, s4, s5, s6, s7, s8, s9, s10, s11, s12] at hg
                all_goals first | (refine oQ (Q_bin rfl rfl rfl) rfl rfl ?_) | skip
                all_goals first | refine oQ (Q_pick_t rfl (by with_reducible rfl) rfl rfl) rfl rfl ?_ | refine oQ (Q_pick_f rfl (by with_reducible rfl) rfl rfl) rfl rfl ?_
                all_goals refine oN ?_
                all_goals (
                 first | refine cT rfl ?_ | refine cF rfl ?_ | refine CW_cond rfl (fun hc => ?_) (fun hc => ?_)
                 all_goals try simp only [s1, s2, s3, s4, s5, s6, s7, s8, s9, s10, s11, s12] at hc
                 all_goals try (exfalso; first | omega | (simp at hc; done); done)
                 all_goals first
                   | (
                    refine CW_skip ?_)
                   | (
                    refine cR ?_
                    refine oA rfl rfl ?_
                    refine oN ?_
                    refine CW_ret ?_))
                all_goals first
                  | with_reducible refine tR ?_
                  | with_reducible refine tE ?_
                  | (
                   with_reducible refine tN ?_
                   refine cR ?_
                   refine oA rfl rfl ?_
                   refine oN ?_
                   refine CW_ret ?_)))))
    all_goals (
     first | ((refine exitQ (.inr rfl) 2 (.cons (.tmp rfl rfl) .nil) ?_ rfl (vHc rfl (vHc rfl vHn)) rfl rfl); rfl) | (exfalso; simp_all; done))
  · have hmo := mo_both p (l ++ (List.replicate (roomN n) mark)) (l2 ++ (List.replicate (roomN m) mark)) n m (n + roomN n) (m + roomN m) (by simp; try omega) (by simp; try omega) (by omega) (by omega) (by omega) (by omega)
    obtain ⟨v, e, hv, hs, hi, hz⟩ := hmo
    have h00 := impl_Mo_nn p
    have h0r := fun (X : List Int) (q : Nat) => impl_Mo_nr p X q 2
    have hr0 := fun (X : List Int) (q : Nat) => impl_Mo_rn p X q 2
    refine conW tab_ok [(0, .int p), (1, .slice 0 o n k), (2, .slice 1 o2 m k2)] 2 [0, 1] [] Try.func4 rfl rfl rfl rfl rfl rfl rfl rfl rfl ?_
    refine cR ?_
    refine oA rfl rfl ?_
    refine oN ?_
    refine CW_seq ?_
    refine cR ?_
    refine oM rfl rfl ?_
    first | refine oQ (Q_len rfl rfl rfl rfl) rfl rfl ?_ | refine oQ (Q_len0 rfl rfl rfl rfl) rfl rfl ?_
    refine oM rfl rfl ?_
    first | refine oQ (Q_len rfl rfl rfl rfl) rfl rfl ?_ | refine oQ (Q_len0 rfl rfl rfl rfl) rfl rfl ?_
    first | refine oQ (Q_binu rfl rfl rfl (by omega)) rfl rfl ?_ | refine oQ (Q_bin rfl rfl rfl) rfl rfl ?_
    refine oQ (Q_bin rfl rfl rfl) rfl rfl ?_
    refine oN ?_
    first | refine cT rfl ?_ | refine cF rfl ?_ | refine CW_cond rfl (fun hc => ?_) (fun hc => ?_)
    all_goals try simp only [s1, s2, s3, s4, s5, s6, s7, s8, s9, s10, s11, s12] at hc
    all_goals try (exfalso; first | omega | (simp at hc; done); done)
    all_goals first
      | (
       refine CW_skip ?_)
      | (
       refine cR ?_
       refine oA rfl rfl ?_
       refine oN ?_
       refine CW_ret ?_)
    all_goals first
      | with_reducible refine tR ?_
      | with_reducible refine tE ?_
      | (
       with_reducible refine tN ?_
       refine cR ?_
       iterate 2 refine oM rfl rfl ?_
       refine oCall (toInt64S_row l o n k false hl (by omega)) [] 2 rfl rfl (Fits.mk' (vHc rfl vHn) rfl rfl (by simp)) rfl rfl ?_
       rintro r H1 hR
       obtain ⟨rfl, rfl⟩ := cpR_f hR
       refine ⟨.slice 3 0 n (n + roomN n), [(0, .ro o l), (3, .ints 2 (l ++ (List.replicate (roomN n) mark)))], rfl, rfl, rfl, ?_⟩
       refine oM rfl rfl ?_
       refine oCall (toInt64S_row l2 o2 m k2 false hl2 (by omega)) [(0, 1)] 2 rfl rfl (Fits.mk' (vHc rfl vHn) rfl rfl (by simp)) rfl rfl ?_
       rintro r H1 hR
       obtain ⟨rfl, rfl⟩ := cpR_f hR
       refine ⟨.slice 5 0 m (m + roomN m), [(1, .ro o2 l2), (5, .ints 2 (l2 ++ (List.replicate (roomN m) mark)))], rfl, rfl, rfl, ?_⟩
       refine oQ (Q_call (hs) [(0, 3), (1, 5)] rfl rfl (Fits.mk' (vHc rfl (vHc rfl vHn)) rfl rfl (by first | (simp; done) | exact glOk rfl rfl rfl)) rfl rfl) rfl rfl ?_
       refine oM rfl rfl ?_
       iterate 2 refine oQ (Q_extract rfl rfl) rfl rfl ?_
       refine oAlloc rfl rfl rfl rfl rfl rfl rfl ?_
       first | refine oSw rfl rfl rfl rfl ?_ | refine oSa rfl rfl rfl rfl ?_
       refine oA rfl rfl ?_
       refine oN ?_
       refine cR ?_
       refine oM rfl rfl ?_
       refine oCall (toInt64S_row l o n k false hl (by omega)) [] 2 rfl rfl (Fits.mk' (vHc rfl vHn) rfl rfl (by simp)) rfl rfl ?_
       rintro r H1 hR
       obtain ⟨rfl, rfl⟩ := cpR_f hR
       refine ⟨.slice 8 0 n (n + roomN n), [(0, .ro o l), (8, .ints 2 (l ++ (List.replicate (roomN n) mark)))], rfl, rfl, rfl, ?_⟩
       refine oA rfl rfl ?_
       refine oN ?_
       refine cR ?_
       refine oM rfl rfl ?_
       refine oCall (toInt64S_row l2 o2 m k2 false hl2 (by omega)) [(0, 1)] 2 rfl rfl (Fits.mk' (vHc rfl vHn) rfl rfl (by simp)) rfl rfl ?_
       rintro r H1 hR
       obtain ⟨rfl, rfl⟩ := cpR_f hR
       refine ⟨.slice 10 0 m (m + roomN m), [(1, .ro o2 l2), (10, .ints 2 (l2 ++ (List.replicate (roomN m) mark)))], rfl, rfl, rfl, ?_⟩
       refine oA rfl rfl ?_
       refine oN ?_
       refine cR ?_
       iterate 3 refine oM rfl rfl ?_
       refine oQ (Q_call (hi) [(0, 8), (1, 10)] rfl rfl (Fits.mk' (vHc rfl (vHc rfl vHn)) rfl rfl (by first | (simp; done) | exact glOk rfl rfl rfl)) rfl rfl) rfl rfl ?_
       refine oM rfl rfl ?_
       iterate 2 refine oQ (Q_extract rfl rfl) rfl rfl ?_
       refine oAlloc rfl rfl rfl rfl rfl rfl rfl ?_
       first | refine oSw rfl rfl rfl rfl ?_ | refine oSa rfl rfl rfl rfl ?_
       refine oA rfl rfl ?_
       refine oN ?_
       refine CW_seq ?_
       refine cR ?_
       first | refine oQ (Lw rfl rfl rfl rfl) rfl rfl ?_ | refine oQ (La rfl rfl rfl rfl rfl) rfl rfl ?_
       first | refine oQ (Lw rfl rfl rfl rfl) rfl rfl ?_ | refine oQ (La rfl rfl rfl rfl rfl) rfl rfl ?_
       refine oQ (Q_call0 (eqMoebius_same v hv) rfl rfl rfl) rfl rfl ?_
       refine oQ (Q_not rfl) rfl rfl ?_
       refine oM rfl rfl ?_
       all_goals first | refine oT rfl rfl ?_ | refine o1 rfl rfl rfl ?_ | refine o0 rfl rfl rfl ?_ | refine ogP1 rfl rfl rfl (fun hg => ?_) (fun hg => ?_) | refine ogP0 rfl rfl rfl (fun hg => ?_) (fun hg => ?_)
       all_goals try simp only [s1, s2, s3, s4, s5, s6, s7, s8, s9, s10, s11, s12] at hg
       all_goals first | (refine oM rfl rfl ?_) | skip
       all_goals first | refine oT rfl rfl ?_ | refine o1 rfl rfl rfl ?_ | refine o0 rfl rfl rfl ?_ | refine ogP1 rfl rfl rfl (fun hg => ?_) (fun hg => ?_) | refine ogP0 rfl rfl rfl (fun hg => ?_) (fun hg => ?_)
       all_goals try simp only [s1, s2, s3, s4, s5, s6, s7, s8, s9, s10, s11, s12] at hg
       all_goals first | (refine oM rfl rfl ?_) | skip
       all_goals first | refine oT rfl rfl ?_ | refine o1 rfl rfl rfl ?_ | refine o0 rfl rfl rfl ?_ | refine ogP1 rfl rfl rfl (fun hg => ?_) (fun hg => ?_) | refine ogP0 rfl rfl rfl (fun hg => ?_) (fun hg => ?_)
       all_goals try simp only [s1, s2, s3, s4, s5, s6, s7, s8, s9, s10, s11, s12] at hg
       all_goals first | (refine oQ (Q_bin rfl rfl rfl) rfl rfl ?_) | skip
       all_goals first | refine oQ (Q_pick_t rfl (by with_reducible rfl) rfl rfl) rfl rfl ?_ | refine oQ (Q_pick_f rfl (by with_reducible rfl) rfl rfl) rfl rfl ?_
       all_goals refine oN ?_
       all_goals (
        first | refine cT rfl ?_ | refine cF rfl ?_ | refine CW_cond rfl (fun hc => ?_) (fun hc => ?_)
        all_goals try simp only [s1, s2, s3, s4, s5, s6, s7, s8, s9, s10, s11, s12] at hc
        all_goals try (exfalso; first | omega | (simp at hc; done); done)
        all_goals first
          | (
           refine CW_skip ?_)
          | (
           refine cR ?_
           refine oA rfl rfl ?_
           refine oN ?_
           refine CW_ret ?_))
       all_goals first
         | with_reducible refine tR ?_
         | with_reducible refine tE ?_
         | (
          with_reducible refine tN ?_
          refine CW_seq ?_
          refine cR ?_
          iterate 2 refine oM rfl rfl ?_
          refine oCall (toInt64S_row l o n k false hl (by omega)) [] 2 rfl rfl (Fits.mk' (vHc rfl vHn) rfl rfl (by simp)) rfl rfl ?_
          rintro r H1 hR
          obtain ⟨rfl, rfl⟩ := cpR_f hR
          refine ⟨.slice 13 0 n (n + roomN n), [(0, .ro o l), (13, .ints 2 (l ++ (List.replicate (roomN n) mark)))], rfl, rfl, rfl, ?_⟩
          refine oQ (Q_call (intactInt64S_con 2 2 (l ++ (List.replicate (roomN n) mark)) (l ++ (List.replicate (roomN n) mark)) n (by simp [hl]) (by simp [hl]) (by omega)) [(0, 8), (1, 13)] rfl rfl (Fits.mk' (vHc rfl (vHc rfl vHn)) rfl rfl (by first | (simp; done) | exact glOk rfl rfl rfl)) rfl rfl) rfl rfl ?_
          refine oQ (Q_not rfl) rfl rfl ?_
          refine oN ?_
          first | refine cT rfl ?_ | refine cF rfl ?_ | refine CW_cond rfl (fun hc => ?_) (fun hc => ?_)
          all_goals try simp only [s1, s2, s3, s4, s5, s6, s7, s8, s9, s10, s11, s12] at hc
          all_goals try (exfalso; first | omega | (simp at hc; done); done)
          all_goals first
            | (
             refine CW_skip ?_)
            | (
             refine cR ?_
             refine oA rfl rfl ?_
             refine oN ?_
             refine CW_ret ?_)
          all_goals first
            | with_reducible refine tR ?_
            | with_reducible refine tE ?_
            | (
             with_reducible refine tN ?_
             refine CW_seq ?_
             refine cR ?_
             iterate 2 refine oM rfl rfl ?_
             refine oCall (toInt64S_row l2 o2 m k2 false hl2 (by omega)) [(0, 1)] 2 rfl rfl (Fits.mk' (vHc rfl vHn) rfl rfl (by simp)) rfl rfl ?_
             rintro r H1 hR
             obtain ⟨rfl, rfl⟩ := cpR_f hR
             refine ⟨.slice 15 0 m (m + roomN m), [(1, .ro o2 l2), (15, .ints 2 (l2 ++ (List.replicate (roomN m) mark)))], rfl, rfl, rfl, ?_⟩
             refine oQ (Q_call (intactInt64S_con 2 2 (l2 ++ (List.replicate (roomN m) mark)) (l2 ++ (List.replicate (roomN m) mark)) m (by simp [hl2]) (by simp [hl2]) (by omega)) [(0, 10), (1, 15)] rfl rfl (Fits.mk' (vHc rfl (vHc rfl vHn)) rfl rfl (by first | (simp; done) | exact glOk rfl rfl rfl)) rfl rfl) rfl rfl ?_
             refine oQ (Q_not rfl) rfl rfl ?_
             refine oN ?_
             first | refine cT rfl ?_ | refine cF rfl ?_ | refine CW_cond rfl (fun hc => ?_) (fun hc => ?_)
             all_goals try simp only [s1, s2, s3, s4, s5, s6, s7, s8, s9, s10, s11, s12] at hc
             all_goals try (exfalso; first | omega | (simp at hc; done); done)
             all_goals first
               | (
                refine CW_skip ?_)
               | (
                refine cR ?_
                refine oA rfl rfl ?_
                refine oN ?_
                refine CW_ret ?_)
             all_goals first
               | with_reducible refine tR ?_
               | with_reducible refine tE ?_
               | (
                with_reducible refine tN ?_
                refine cR ?_
                iterate 2 refine oM rfl rfl ?_
                refine oCall (toInt64S_row l o n k true hl (by omega)) [] 2 rfl rfl (Fits.mk' (vHc rfl vHn) rfl rfl (by simp)) rfl rfl ?_
                rintro r H1 hR
                rcases cpR_t hR with ⟨e0, rfl, rfl⟩ | ⟨rfl, rfl⟩
                all_goals first | refine ⟨.nilsl, [(0, .ro o l)], rfl, rfl, rfl, ?_⟩ | refine ⟨.slice 17 0 n (n + roomN n), [(0, .ro o l), (17, .ints 2 (l ++ (List.replicate (roomN n) mark)))], rfl, rfl, rfl, ?_⟩
                all_goals first | (refine oM rfl rfl ?_)
                all_goals first | (refine oCall (toInt64S_row l2 o2 m k2 true hl2 (by omega)) [(0, 1)] 2 rfl rfl (Fits.mk' (vHc rfl vHn) rfl rfl (by simp)) rfl rfl ?_; rintro r H1 hR; rcases cpR_t hR with ⟨e1, rfl, rfl⟩ | ⟨rfl, rfl⟩; all_goals first | refine ⟨.nilsl, [(1, .ro o2 l2)], rfl, rfl, rfl, ?_⟩ | refine ⟨.slice 19 0 m (m + roomN m), [(1, .ro o2 l2), (19, .ints 2 (l2 ++ (List.replicate (roomN m) mark)))], rfl, rfl, rfl, ?_⟩)
                all_goals first | (obtain ⟨rfl, rfl⟩ := hz (by omega); refine oQ (Q_call0 h00 rfl rfl rfl) rfl rfl ?_) | (obtain ⟨rfl, rfl⟩ := hz (by omega); refine oQ (Q_call (h0r (l2 ++ (List.replicate (roomN m) mark)) m (m + roomN m)) [(0, 19)] rfl rfl (Fits.mk' (vHc rfl vHn) rfl rfl (by simp)) rfl rfl) rfl rfl ?_) | (obtain ⟨rfl, rfl⟩ := hz (by omega); refine oQ (Q_call (hr0 (l ++ (List.replicate (roomN n) mark)) n (n + roomN n)) [(0, 17)] rfl rfl (Fits.mk' (vHc rfl vHn) rfl rfl (by simp)) rfl rfl) rfl rfl ?_) | refine oQ (Q_call hi [(0, 17), (1, 19)] rfl rfl (Fits.mk' (vHc rfl (vHc rfl vHn)) rfl rfl (by simp)) rfl rfl) rfl rfl ?_
                all_goals first | (refine oM rfl rfl ?_)
                all_goals first | (refine oQ (Q_extract rfl rfl) rfl rfl ?_)
                all_goals first | (refine oQ (Q_extract rfl rfl) rfl rfl ?_)
                all_goals first | (refine oAlloc rfl rfl rfl rfl rfl rfl rfl ?_)
                all_goals first | refine oSw rfl rfl rfl rfl ?_ | refine oSa rfl rfl rfl rfl ?_
                all_goals first | (refine oA rfl rfl ?_)
                all_goals refine oN ?_
                all_goals (
                 refine CW_seq ?_
                 refine cR ?_
                 first | refine oQ (Lw rfl rfl rfl rfl) rfl rfl ?_ | refine oQ (La rfl rfl rfl rfl rfl) rfl rfl ?_
                 first | refine oQ (Lw rfl rfl rfl rfl) rfl rfl ?_ | refine oQ (La rfl rfl rfl rfl rfl) rfl rfl ?_
                 first | (refine oQ (Q_call0 (eqMoebius_same v hv) rfl rfl rfl) rfl rfl ?_) | (refine oQ (Q_call0 (eqMoebius_same [0, 0, 0, 0] rfl) rfl rfl rfl) rfl rfl ?_)
                 refine oQ (Q_not rfl) rfl rfl ?_
                 refine oM rfl rfl ?_
                 all_goals first | refine oT rfl rfl ?_ | refine o1 rfl rfl rfl ?_ | refine o0 rfl rfl rfl ?_ | refine ogP1 rfl rfl rfl (fun hg => ?_) (fun hg => ?_) | refine ogP0 rfl rfl rfl (fun hg => ?_) (fun hg => ?_)
                 all_goals try simp only [s1, s2, s3, s4, s5, s6, s7, s8, s9, s10, s11, s12] at hg
                 all_goals first | (refine oM rfl rfl ?_) | skip
                 all_goals first | refine oT rfl rfl ?_ | refine o1 rfl rfl rfl ?_ | refine o0 rfl rfl rfl ?_ | refine ogP1 rfl rfl rfl (fun hg => ?_) (fun hg => ?_) | refine ogP0 rfl rfl rfl (fun hg => ?_) (fun hg => ?_)
                 all_goals try simp only [s1, s2, s3, s4, s5, s6, s7, s8, s9, s10, s11, s12] at hg
                 all_goals first | (refine oM rfl rfl ?_) | skip
                 all_goals first | refine oT rfl rfl ?_ | refine o1 rfl rfl rfl ?_ | refine o0 rfl rfl rfl ?_ | refine ogP1 rfl rfl rfl (fun hg => ?_) (fun hg => ?_) | refine ogP0 rfl rfl rfl (fun hg => ?_) (fun hg => ?_)
                 all_goals try simp only [s1, s2, s3, s4, s5, s6, s7, s8, s9, s10, s11, s12] at hg
                 all_goals first | (refine oQ (Q_bin rfl rfl rfl) rfl rfl ?_) | skip
                 all_goals first | refine oQ (Q_pick_t rfl (by with_reducible rfl) rfl rfl) rfl rfl ?_ | refine oQ (Q_pick_f rfl (by with_reducible rfl) rfl rfl) rfl rfl ?_
                 all_goals refine oN ?_
                 all_goals (
                  first | refine cT rfl ?_ | refine cF rfl ?_ | refine CW_cond rfl (fun hc => ?_) (fun hc => ?_)
                  all_goals try simp only [s1, s2, s3, s4, s5, s6, s7, s8, s9, s10, s11, s12] at hc
                  all_goals try (exfalso; first | omega | (simp at hc; done); done)
                  all_goals first
                    | (
                     refine CW_skip ?_)
                    | (
                     refine cR ?_
                     refine oA rfl rfl ?_
                     refine oN ?_
                     refine CW_ret ?_))
                 all_goals first
                   | with_reducible refine tR ?_
                   | with_reducible refine tE ?_
                   | (
                    with_reducible refine tN ?_
                    refine cR ?_
                    refine oA rfl rfl ?_
                    refine oN ?_
                    refine CW_ret ?_))))))
    all_goals (
     first | ((refine exitQ (.inr rfl) 2 (.cons (.tmp rfl rfl) .nil) ?_ rfl (vHc rfl (vHc rfl vHn)) rfl rfl); rfl) | (exfalso; simp at hg; done) | (exfalso; simp_all; done))
theorem law_FnExactMoebiusOf_rn (p : Int) (l : List Int) (o n k : Nat) (hl : l.length = n) (hnn : n ≤ 1000000000000000) : ConQ Try.prog [] 4 [.int p, .slice 0 o n k, .nilsl] [(0, .ro o l)] (.bool true) := by
  have hr1 := roomN_le n
  have hr2 := roomN_le 0
  by_cases hbig : 1000000 < ((n : Nat) : Int) + (0 : Int)
  · skip
    refine conW tab_ok [(0, .int p), (1, .slice 0 o n k), (2, .nilsl)] 1 [0] [] Try.func4 rfl rfl rfl rfl rfl rfl rfl rfl rfl ?_
    refine cR ?_
    refine oA rfl rfl ?_
    refine oN ?_
    refine CW_seq ?_
    refine cR ?_
    refine oM rfl rfl ?_
    first | refine oQ (Q_len rfl rfl rfl rfl) rfl rfl ?_ | refine oQ (Q_len0 rfl rfl rfl rfl) rfl rfl ?_
    refine oM rfl rfl ?_
    first | refine oQ (Q_len rfl rfl rfl rfl) rfl rfl ?_ | refine oQ (Q_len0 rfl rfl rfl rfl) rfl rfl ?_
    first | refine oQ (Q_binu rfl rfl rfl (by omega)) rfl rfl ?_ | refine oQ (Q_bin rfl rfl rfl) rfl rfl ?_
    refine oQ (Q_bin rfl rfl rfl) rfl rfl ?_
    refine oN ?_
    first | refine cT rfl ?_ | refine cF rfl ?_ | refine CW_cond rfl (fun hc => ?_) (fun hc => ?_)
    all_goals try simp only [s1, s2, s3, s4, s5, s6, s7, s8, s9, s10, s11, s12] at hc
    all_goals try (exfalso; first | omega | (simp at hc; done); done)
    all_goals first
      | (
       refine CW_skip ?_)
      | (
       refine cR ?_
       refine oA rfl rfl ?_
       refine oN ?_
       refine CW_ret ?_)
    all_goals first
      | with_reducible refine tR ?_
      | with_reducible refine tE ?_
      | (
       with_reducible refine tN ?_
       refine cR ?_
       iterate 2 refine oM rfl rfl ?_
       (exfalso; omega)
       refine oM rfl rfl ?_
       fail "call of loop.example/g01310/laws.toInt64S at slot 26"
       fail "call of loop.example/g01310/spec.MoebiusOf at slot 27"
       refine oM rfl rfl ?_
       iterate 2 refine oQ (Q_extract rfl rfl) rfl rfl ?_
       refine oAlloc rfl rfl rfl rfl rfl rfl rfl ?_
       first | refine oSw rfl rfl rfl rfl ?_ | refine oSa rfl rfl rfl rfl ?_
       refine oA rfl rfl ?_
       refine oN ?_
       refine cR ?_
       refine oM rfl rfl ?_
       fail "call of loop.example/g01310/laws.toInt64S at slot 31"
       refine oA rfl rfl ?_
       refine oN ?_
       refine cR ?_
       refine oM rfl rfl ?_
       fail "call of loop.example/g01310/laws.toInt64S at slot 33"
       refine oA rfl rfl ?_
       refine oN ?_
       refine cR ?_
       iterate 3 refine oM rfl rfl ?_
       fail "call of loop.example/g01310/impl.MoebiusOf at slot 38"
       refine oM rfl rfl ?_
       iterate 2 refine oQ (Q_extract rfl rfl) rfl rfl ?_
       refine oAlloc rfl rfl rfl rfl rfl rfl rfl ?_
       first | refine oSw rfl rfl rfl rfl ?_ | refine oSa rfl rfl rfl rfl ?_
       refine oA rfl rfl ?_
       refine oN ?_
       refine CW_seq ?_
       refine cR ?_
       first | refine oQ (Lw rfl rfl rfl rfl) rfl rfl ?_ | refine oQ (La rfl rfl rfl rfl rfl) rfl rfl ?_
       first | refine oQ (Lw rfl rfl rfl rfl) rfl rfl ?_ | refine oQ (La rfl rfl rfl rfl rfl) rfl rfl ?_
       fail "call of loop.example/g01310/laws.eqMoebius at slot 43"
       refine oQ (Q_not rfl) rfl rfl ?_
       refine oM rfl rfl ?_
       all_goals first | refine oT rfl rfl ?_ | refine o1 rfl rfl rfl ?_ | refine o0 rfl rfl rfl ?_ | refine ogP1 rfl rfl rfl (fun hg => ?_) (fun hg => ?_) | refine ogP0 rfl rfl rfl (fun hg => ?_) (fun hg => ?_)
       all_goals try simp only [s1, s2, s3, s4, s5, s6, s7, s8, s9, s10, s11, s12] at hg
       all_goals first | (refine oM rfl rfl ?_) | skip
       all_goals first | refine oT rfl rfl ?_ | refine o1 rfl rfl rfl ?_ | refine o0 rfl rfl rfl ?_ | refine ogP1 rfl rfl rfl (fun hg => ?_) (fun hg => ?_) | refine ogP0 rfl rfl rfl (fun hg => ?_) (fun hg => ?_)
       all_goals try simp only [s1, s2, s3, s4, s5, s6, s7, s8, s9, s10, s11, s12] at hg
       all_goals first | (refine oM rfl rfl ?_) | skip
       all_goals first | refine oT rfl rfl ?_ | refine o1 rfl rfl rfl ?_ | refine o0 rfl rfl rfl ?_ | refine ogP1 rfl rfl rfl (fun hg => ?_) (fun hg => ?_) | refine ogP0 rfl rfl rfl (fun hg => ?_) (fun hg => ?_)
       all_goals try simp only [s1, s2, s3, s4, s5, s6, s7, s8, s9, s10, s11, s12] at hg
       all_goals first | (refine oQ (Q_bin rfl rfl rfl) rfl rfl ?_) | skip
       all_goals first | refine oQ (Q_pick_t rfl (by with_reducible rfl) rfl rfl) rfl rfl ?_ | refine oQ (Q_pick_f rfl (by with_reducible rfl) rfl rfl) rfl rfl ?_
       all_goals refine oN ?_
       all_goals (
        first | refine cT rfl ?_ | refine cF rfl ?_ | refine CW_cond rfl (fun hc => ?_) (fun hc => ?_)
        all_goals try simp only [s1, s2, s3, s4, s5, s6, s7, s8, s9, s10, s11, s12] at hc
        all_goals try (exfalso; first | omega | (simp at hc; done); done)
        all_goals first
          | (
           refine CW_skip ?_)
          | (
           refine cR ?_
           refine oA rfl rfl ?_
           refine oN ?_
           refine CW_ret ?_))
       all_goals first
         | with_reducible refine tR ?_
         | with_reducible refine tE ?_
         | (
          with_reducible refine tN ?_
          refine CW_seq ?_
          refine cR ?_
          iterate 2 refine oM rfl rfl ?_
          fail "call of loop.example/g01310/laws.toInt64S at slot 52"
          fail "call of loop.example/g01310/laws.intactInt64S at slot 53"
          refine oQ (Q_not rfl) rfl rfl ?_
          refine oN ?_
          first | refine cT rfl ?_ | refine cF rfl ?_ | refine CW_cond rfl (fun hc => ?_) (fun hc => ?_)
          all_goals try simp only [s1, s2, s3, s4, s5, s6, s7, s8, s9, s10, s11, s12] at hc
          all_goals try (exfalso; first | omega | (simp at hc; done); done)
          all_goals first
            | (
             refine CW_skip ?_)
            | (
             refine cR ?_
             refine oA rfl rfl ?_
             refine oN ?_
             refine CW_ret ?_)
          all_goals first
            | with_reducible refine tR ?_
            | with_reducible refine tE ?_
            | (
             with_reducible refine tN ?_
             refine CW_seq ?_
             refine cR ?_
             iterate 2 refine oM rfl rfl ?_
             fail "call of loop.example/g01310/laws.toInt64S at slot 57"
             fail "call of loop.example/g01310/laws.intactInt64S at slot 58"
             refine oQ (Q_not rfl) rfl rfl ?_
             refine oN ?_
             first | refine cT rfl ?_ | refine cF rfl ?_ | refine CW_cond rfl (fun hc => ?_) (fun hc => ?_)
             all_goals try simp only [s1, s2, s3, s4, s5, s6, s7, s8, s9, s10, s11, s12] at hc
             all_goals try (exfalso; first | omega | (simp at hc; done); done)
             all_goals first
               | (
                refine CW_skip ?_)
               | (
                refine cR ?_
                refine oA rfl rfl ?_
                refine oN ?_
                refine CW_ret ?_)
             all_goals first
               | with_reducible refine tR ?_
               | with_reducible refine tE ?_
               | (
                with_reducible refine tN ?_
                refine cR ?_
                iterate 2 refine oM rfl rfl ?_
                fail "call of loop.example/g01310/laws.toInt64S at slot 63"
                refine oM rfl rfl ?_
                fail "call of loop.example/g01310/laws.toInt64S at slot 65"
                fail "call of loop.example/g01310/impl.MoebiusOf at slot 66"
                refine oM rfl rfl ?_
                iterate 2 refine oQ (Q_extract rfl rfl) rfl rfl ?_
                refine oAlloc rfl rfl rfl rfl rfl rfl rfl ?_
                first | refine oSw rfl rfl rfl rfl ?_ | refine oSa rfl rfl rfl rfl ?_
                refine oA rfl rfl ?_
                refine oN ?_
                refine CW_seq ?_
                refine cR ?_
                first | refine oQ (Lw rfl rfl rfl rfl) rfl rfl ?_ | refine oQ (La rfl rfl rfl rfl rfl) rfl rfl ?_
                first | refine oQ (Lw rfl rfl rfl rfl) rfl rfl ?_ | refine oQ (La rfl rfl rfl rfl rfl) rfl rfl ?_
                fail "call of loop.example/g01310/laws.eqMoebius at slot 71"
                refine oQ (Q_not rfl) rfl rfl ?_
                refine oM rfl rfl ?_
                all_goals first | refine oT rfl rfl ?_ | refine o1 rfl rfl rfl ?_ | refine o0 rfl rfl rfl ?_ | refine ogP1 rfl rfl rfl (fun hg => ?_) (fun hg => ?_) | refine ogP0 rfl rfl rfl (fun hg => ?_) (fun hg => ?_)
                all_goals try simp only [s1, s2, s3, s4, s5, s6, s7, s8, s9, s10, s11, s12] at hg
                all_goals first | (refine oM rfl rfl ?_) | skip
                all_goals first | refine oT rfl rfl ?_ | refine o1 rfl rfl rfl ?_ | refine o0 rfl rfl rfl ?_ | refine ogP1 rfl rfl rfl (fun hg => ?_) (fun hg => ?_) | refine ogP0 rfl rfl rfl (fun hg => ?_) (fun hg => ?_)
                all_goals try simp only [s1, s2, s3, s4, s5, s6, s7, s8, s9, s10, s11, s12] at hg
                all_goals first | (refine oM rfl rfl ?_) | skip
                all_goals first | refine oT rfl rfl ?_ | refine o1 rfl rfl rfl ?_ | refine o0 rfl rfl rfl ?_ | refine ogP1 rfl rfl rfl (fun hg => ?_) (fun hg => ?_) | refine ogP0 rfl rfl rfl (fun hg => ?_) (fun hg => ?_)
                all_goals try simp only [s1, s2, s3, s4, s5, s6, s7, s8, s9, s10, s11, s12] at hg
                all_goals first | (refine oQ (Q_bin rfl rfl rfl) rfl rfl ?_) | skip
                all_goals first | refine oQ (Q_pick_t rfl (by with_reducible rfl) rfl rfl) rfl rfl ?_ | refine oQ (Q_pick_f rfl (by with_reducible rfl) rfl rfl) rfl rfl ?_
                all_goals refine oN ?_
                all_goals (
                 first | refine cT rfl ?_ | refine cF rfl ?_ | refine CW_cond rfl (fun hc => ?_) (fun hc => ?_)
                 all_goals try simp only [s1, s2, s3, s4, s5, s6, s7, s8, s9, s10, s11, s12] at hc
                 all_goals try (exfalso; first | omega | (simp at hc; done); done)
                 all_goals first
                   | (
                    refine CW_skip ?_)
                   | (
                    refine cR ?_
                    refine oA rfl rfl ?_
                    refine oN ?_
                    refine CW_ret ?_))
                all_goals first
                  | with_reducible refine tR ?_
                  | with_reducible refine tE ?_
                  | (
                   with_reducible refine tN ?_
                   refine cR ?_
                   refine oA rfl rfl ?_
                   refine oN ?_
                   refine CW_ret ?_)))))
    all_goals (
     first | ((refine exitQ (.inr rfl) 1 (.cons (.tmp rfl rfl) .nil) ?_ rfl (vHc rfl vHn) rfl rfl); rfl) | (exfalso; simp_all; done))
  · have hmo := mo_both p (l ++ (List.replicate (roomN n) mark)) (([] : List Int) ++ [mark]) n 0 (n + roomN n) (0 + roomN 0) (by simp; try omega) (by simp; try omega) (by omega) (by omega) (by omega) (by omega)
    obtain ⟨v, e, hv, hs, hi, hz⟩ := hmo
    have h00 := impl_Mo_nn p
    have h0r := fun (X : List Int) (q : Nat) => impl_Mo_nr p X q 2
    have hr0 := fun (X : List Int) (q : Nat) => impl_Mo_rn p X q 2
    refine conW tab_ok [(0, .int p), (1, .slice 0 o n k), (2, .nilsl)] 1 [0] [] Try.func4 rfl rfl rfl rfl rfl rfl rfl rfl rfl ?_
    refine cR ?_
    refine oA rfl rfl ?_
    refine oN ?_
    refine CW_seq ?_
    refine cR ?_
    refine oM rfl rfl ?_
    first | refine oQ (Q_len rfl rfl rfl rfl) rfl rfl ?_ | refine oQ (Q_len0 rfl rfl rfl rfl) rfl rfl ?_
    refine oM rfl rfl ?_
    first | refine oQ (Q_len rfl rfl rfl rfl) rfl rfl ?_ | refine oQ (Q_len0 rfl rfl rfl rfl) rfl rfl ?_
    first | refine oQ (Q_binu rfl rfl rfl (by omega)) rfl rfl ?_ | refine oQ (Q_bin rfl rfl rfl) rfl rfl ?_
    refine oQ (Q_bin rfl rfl rfl) rfl rfl ?_
    refine oN ?_
    first | refine cT rfl ?_ | refine cF rfl ?_ | refine CW_cond rfl (fun hc => ?_) (fun hc => ?_)
    all_goals try simp only [s1, s2, s3, s4, s5, s6, s7, s8, s9, s10, s11, s12] at hc
    all_goals try (exfalso; first | omega | (simp at hc; done); done)
    all_goals first
      | (
       refine CW_skip ?_)
      | (
       refine cR ?_
       refine oA rfl rfl ?_
       refine oN ?_
       refine CW_ret ?_)
    all_goals first
      | with_reducible refine tR ?_
      | with_reducible refine tE ?_
      | (
       with_reducible refine tN ?_
       refine cR ?_
       iterate 2 refine oM rfl rfl ?_
       refine oCall (toInt64S_row l o n k false hl (by omega)) [] 2 rfl rfl (Fits.mk' (vHc rfl vHn) rfl rfl (by simp)) rfl rfl ?_
       rintro r H1 hR
       obtain ⟨rfl, rfl⟩ := cpR_f hR
       refine ⟨.slice 2 0 n (n + roomN n), [(0, .ro o l), (2, .ints 2 (l ++ (List.replicate (roomN n) mark)))], rfl, rfl, rfl, ?_⟩
       refine oM rfl rfl ?_
       refine oCall (toInt64S_nil false) [] 2 rfl rfl (Fits.mk' vHn rfl rfl (by simp)) rfl rfl ?_
       rintro r H1 hR
       obtain ⟨rfl, rfl⟩ := cpR_f hR
       refine ⟨.slice 4 0 0 (0 + roomN 0), [(4, .ints 2 (([] : List Int) ++ [mark]))], rfl, rfl, rfl, ?_⟩
       refine oQ (Q_call (hs) [(0, 2), (1, 4)] rfl rfl (Fits.mk' (vHc rfl (vHc rfl vHn)) rfl rfl (by first | (simp; done) | exact glOk rfl rfl rfl)) rfl rfl) rfl rfl ?_
       refine oM rfl rfl ?_
       iterate 2 refine oQ (Q_extract rfl rfl) rfl rfl ?_
       refine oAlloc rfl rfl rfl rfl rfl rfl rfl ?_
       first | refine oSw rfl rfl rfl rfl ?_ | refine oSa rfl rfl rfl rfl ?_
       refine oA rfl rfl ?_
       refine oN ?_
       refine cR ?_
       refine oM rfl rfl ?_
       refine oCall (toInt64S_row l o n k false hl (by omega)) [] 2 rfl rfl (Fits.mk' (vHc rfl vHn) rfl rfl (by simp)) rfl rfl ?_
       rintro r H1 hR
       obtain ⟨rfl, rfl⟩ := cpR_f hR
       refine ⟨.slice 7 0 n (n + roomN n), [(0, .ro o l), (7, .ints 2 (l ++ (List.replicate (roomN n) mark)))], rfl, rfl, rfl, ?_⟩
       refine oA rfl rfl ?_
       refine oN ?_
       refine cR ?_
       refine oM rfl rfl ?_
       refine oCall (toInt64S_nil false) [] 2 rfl rfl (Fits.mk' vHn rfl rfl (by simp)) rfl rfl ?_
       rintro r H1 hR
       obtain ⟨rfl, rfl⟩ := cpR_f hR
       refine ⟨.slice 9 0 0 (0 + roomN 0), [(9, .ints 2 (([] : List Int) ++ [mark]))], rfl, rfl, rfl, ?_⟩
       refine oA rfl rfl ?_
       refine oN ?_
       refine cR ?_
       iterate 3 refine oM rfl rfl ?_
       refine oQ (Q_call (hi) [(0, 7), (1, 9)] rfl rfl (Fits.mk' (vHc rfl (vHc rfl vHn)) rfl rfl (by first | (simp; done) | exact glOk rfl rfl rfl)) rfl rfl) rfl rfl ?_
       refine oM rfl rfl ?_
       iterate 2 refine oQ (Q_extract rfl rfl) rfl rfl ?_
       refine oAlloc rfl rfl rfl rfl rfl rfl rfl ?_
       first | refine oSw rfl rfl rfl rfl ?_ | refine oSa rfl rfl rfl rfl ?_
       refine oA rfl rfl ?_
       refine oN ?_
       refine CW_seq ?_
       refine cR ?_
       first | refine oQ (Lw rfl rfl rfl rfl) rfl rfl ?_ | refine oQ (La rfl rfl rfl rfl rfl) rfl rfl ?_
       first | refine oQ (Lw rfl rfl rfl rfl) rfl rfl ?_ | refine oQ (La rfl rfl rfl rfl rfl) rfl rfl ?_
       refine oQ (Q_call0 (eqMoebius_same v hv) rfl rfl rfl) rfl rfl ?_
       refine oQ (Q_not rfl) rfl rfl ?_
       refine oM rfl rfl ?_
       all_goals first | refine oT rfl rfl ?_ | refine o1 rfl rfl rfl ?_ | refine o0 rfl rfl rfl ?_ | refine ogP1 rfl rfl rfl (fun hg => ?_) (fun hg => ?_) | refine ogP0 rfl rfl rfl (fun hg => ?_) (fun hg => ?_)
       all_goals try simp only [s1, s2, s3, s4, s5, s6, s7, s8, s9, s10, s11, s12] at hg
       all_goals first | (refine oM rfl rfl ?_) | skip
       all_goals first | refine oT rfl rfl ?_ | refine o1 rfl rfl rfl ?_ | refine o0 rfl rfl rfl ?_ | refine ogP1 rfl rfl rfl (fun hg => ?_) (fun hg => ?_) | refine ogP0 rfl rfl rfl (fun hg => ?_) (fun hg => ?_)
       all_goals try simp only [s1, s2, s3, s4, s5, s6, s7, s8, s9, s10, s11, s12] at hg
       all_goals first | (refine oM rfl rfl ?_) | skip
       all_goals first | refine oT rfl rfl ?_ | refine o1 rfl rfl rfl ?_ | refine o0 rfl rfl rfl ?_ | refine ogP1 rfl rfl rfl (fun hg => ?_) (fun hg => ?_) | refine ogP0 rfl rfl rfl (fun hg => ?_) (fun hg => ?_)
       all_goals try simp only [s1, s2, s3, s4, s5, s6, s7, s8, s9, s10, s11, s12] at hg
       all_goals first | (refine oQ (Q_bin rfl rfl rfl) rfl rfl ?_) | skip
       all_goals first | refine oQ (Q_pick_t rfl (by with_reducible rfl) rfl rfl) rfl rfl ?_ | refine oQ (Q_pick_f rfl (by with_reducible rfl) rfl rfl) rfl rfl ?_
       all_goals refine oN ?_
       all_goals (
        first | refine cT rfl ?_ | refine cF rfl ?_ | refine CW_cond rfl (fun hc => ?_) (fun hc => ?_)
        all_goals try simp only [s1, s2, s3, s4, s5, s6, s7, s8, s9, s10, s11, s12] at hc
        all_goals try (exfalso; first | omega | (simp at hc; done); done)
        all_goals first
          | (
           refine CW_skip ?_)
          | (
           refine cR ?_
           refine oA rfl rfl ?_
           refine oN ?_
           refine CW_ret ?_))
       all_goals first
         | with_reducible refine tR ?_
         | with_reducible refine tE ?_
         | (
          with_reducible refine tN ?_
          refine CW_seq ?_
          refine cR ?_
          iterate 2 refine oM rfl rfl ?_
          refine oCall (toInt64S_row l o n k false hl (by omega)) [] 2 rfl rfl (Fits.mk' (vHc rfl vHn) rfl rfl (by simp)) rfl rfl ?_
          rintro r H1 hR
          obtain ⟨rfl, rfl⟩ := cpR_f hR
          refine ⟨.slice 12 0 n (n + roomN n), [(0, .ro o l), (12, .ints 2 (l ++ (List.replicate (roomN n) mark)))], rfl, rfl, rfl, ?_⟩
          refine oQ (Q_call (intactInt64S_con 2 2 (l ++ (List.replicate (roomN n) mark)) (l ++ (List.replicate (roomN n) mark)) n (by simp [hl]) (by simp [hl]) (by omega)) [(0, 7), (1, 12)] rfl rfl (Fits.mk' (vHc rfl (vHc rfl vHn)) rfl rfl (by first | (simp; done) | exact glOk rfl rfl rfl)) rfl rfl) rfl rfl ?_
          refine oQ (Q_not rfl) rfl rfl ?_
          refine oN ?_
          first | refine cT rfl ?_ | refine cF rfl ?_ | refine CW_cond rfl (fun hc => ?_) (fun hc => ?_)
          all_goals try simp only [s1, s2, s3, s4, s5, s6, s7, s8, s9, s10, s11, s12] at hc
          all_goals try (exfalso; first | omega | (simp at hc; done); done)
          all_goals first
            | (
             refine CW_skip ?_)
            | (
             refine cR ?_
             refine oA rfl rfl ?_
             refine oN ?_
             refine CW_ret ?_)
          all_goals first
            | with_reducible refine tR ?_
            | with_reducible refine tE ?_
            | (
             with_reducible refine tN ?_
             refine CW_seq ?_
             refine cR ?_
             iterate 2 refine oM rfl rfl ?_
             refine oCall (toInt64S_nil false) [] 2 rfl rfl (Fits.mk' vHn rfl rfl (by simp)) rfl rfl ?_
             rintro r H1 hR
             obtain ⟨rfl, rfl⟩ := cpR_f hR
             refine ⟨.slice 14 0 0 (0 + roomN 0), [(14, .ints 2 (([] : List Int) ++ [mark]))], rfl, rfl, rfl, ?_⟩
             refine oQ (Q_call (intactInt64S_con 2 2 (([] : List Int) ++ [mark]) (([] : List Int) ++ [mark]) 0 (by simp [roomN]) (by simp [roomN]) (by omega)) [(0, 9), (1, 14)] rfl rfl (Fits.mk' (vHc rfl (vHc rfl vHn)) rfl rfl (by first | (simp; done) | exact glOk rfl rfl rfl)) rfl rfl) rfl rfl ?_
             refine oQ (Q_not rfl) rfl rfl ?_
             refine oN ?_
             first | refine cT rfl ?_ | refine cF rfl ?_ | refine CW_cond rfl (fun hc => ?_) (fun hc => ?_)
             all_goals try simp only [s1, s2, s3, s4, s5, s6, s7, s8, s9, s10, s11, s12] at hc
             all_goals try (exfalso; first | omega | (simp at hc; done); done)
             all_goals first
               | (
                refine CW_skip ?_)
               | (
                refine cR ?_
                refine oA rfl rfl ?_
                refine oN ?_
                refine CW_ret ?_)
             all_goals first
               | with_reducible refine tR ?_
               | with_reducible refine tE ?_
               | (
                with_reducible refine tN ?_
                refine cR ?_
                iterate 2 refine oM rfl rfl ?_
                refine oCall (toInt64S_row l o n k true hl (by omega)) [] 2 rfl rfl (Fits.mk' (vHc rfl vHn) rfl rfl (by simp)) rfl rfl ?_
                rintro r H1 hR
                rcases cpR_t hR with ⟨e0, rfl, rfl⟩ | ⟨rfl, rfl⟩
                all_goals first | refine ⟨.nilsl, [(0, .ro o l)], rfl, rfl, rfl, ?_⟩ | refine ⟨.slice 16 0 n (n + roomN n), [(0, .ro o l), (16, .ints 2 (l ++ (List.replicate (roomN n) mark)))], rfl, rfl, rfl, ?_⟩
                all_goals first | (refine oM rfl rfl ?_)
                all_goals first | (refine oCall (toInt64S_nil true) [] 2 rfl rfl (Fits.mk' vHn rfl rfl (by simp)) rfl rfl ?_; rintro r H1 hR; rcases cpR_t hR with ⟨e1, rfl, rfl⟩ | ⟨rfl, rfl⟩; all_goals first | refine ⟨.nilsl, [], rfl, rfl, rfl, ?_⟩ | refine ⟨.slice 18 0 0 (0 + roomN 0), [(18, .ints 2 (([] : List Int) ++ [mark]))], rfl, rfl, rfl, ?_⟩)
                all_goals first | (obtain ⟨rfl, rfl⟩ := hz (by omega); refine oQ (Q_call0 h00 rfl rfl rfl) rfl rfl ?_) | (obtain ⟨rfl, rfl⟩ := hz (by omega); refine oQ (Q_call (h0r (([] : List Int) ++ [mark]) 0 (0 + roomN 0)) [(0, 18)] rfl rfl (Fits.mk' (vHc rfl vHn) rfl rfl (by simp)) rfl rfl) rfl rfl ?_) | (obtain ⟨rfl, rfl⟩ := hz (by omega); refine oQ (Q_call (hr0 (l ++ (List.replicate (roomN n) mark)) n (n + roomN n)) [(0, 16)] rfl rfl (Fits.mk' (vHc rfl vHn) rfl rfl (by simp)) rfl rfl) rfl rfl ?_) | refine oQ (Q_call hi [(0, 16), (1, 18)] rfl rfl (Fits.mk' (vHc rfl (vHc rfl vHn)) rfl rfl (by simp)) rfl rfl) rfl rfl ?_
                all_goals first | (refine oM rfl rfl ?_)
                all_goals first | (refine oQ (Q_extract rfl rfl) rfl rfl ?_)
                all_goals first | (refine oQ (Q_extract rfl rfl) rfl rfl ?_)
                all_goals first | (refine oAlloc rfl rfl rfl rfl rfl rfl rfl ?_)
                all_goals first | refine oSw rfl rfl rfl rfl ?_ | refine oSa rfl rfl rfl rfl ?_
                all_goals first | (refine oA rfl rfl ?_)
                all_goals refine oN ?_
                all_goals (
                 refine CW_seq ?_
                 refine cR ?_
                 first | refine oQ (Lw rfl rfl rfl rfl) rfl rfl ?_ | refine oQ (La rfl rfl rfl rfl rfl) rfl rfl ?_
                 first | refine oQ (Lw rfl rfl rfl rfl) rfl rfl ?_ | refine oQ (La rfl rfl rfl rfl rfl) rfl rfl ?_
                 first | (refine oQ (Q_call0 (eqMoebius_same v hv) rfl rfl rfl) rfl rfl ?_) | (refine oQ (Q_call0 (eqMoebius_same [0, 0, 0, 0] rfl) rfl rfl rfl) rfl rfl ?_)
                 refine oQ (Q_not rfl) rfl rfl ?_
                 refine oM rfl rfl ?_
                 all_goals first | refine oT rfl rfl ?_ | refine o1 rfl rfl rfl ?_ | refine o0 rfl rfl rfl ?_ | refine ogP1 rfl rfl rfl (fun hg => ?_) (fun hg => ?_) | refine ogP0 rfl rfl rfl (fun hg => ?_) (fun hg => ?_)
                 all_goals try simp only [s1, s2, s3, s4, s5, s6, s7, s8, s9, s10, s11, s12] at hg
                 all_goals first | (refine oM rfl rfl ?_) | skip
                 all_goals first | refine oT rfl rfl ?_ | refine o1 rfl rfl rfl ?_ | refine o0 rfl rfl rfl ?_ | refine ogP1 rfl rfl rfl (fun hg => ?_) (fun hg => ?_) | refine ogP0 rfl rfl rfl (fun hg => ?_) (fun hg => ?_)
                 all_goals try simp only [s1, s2, s3, s4, s5, s6, s7, s8, s9, s10, s11, s12] at hg
                 all_goals first | (refine oM rfl rfl ?_) | skip
                 all_goals first | refine oT rfl rfl ?_ | refine o1 rfl rfl rfl ?_ | refine o0 rfl rfl rfl ?_ | refine ogP1 rfl rfl rfl (fun hg => ?_) (fun hg => ?_) | refine ogP0 rfl rfl rfl (fun hg => ?_) (fun hg => ?_)
                 all_goals try simp only [s1, s2, s3, s4, s5, s6, s7, s8, s9, s10, s11, s12] at hg
                 all_goals first | (refine oQ (Q_bin rfl rfl rfl) rfl rfl ?_) | skip
                 all_goals first | refine oQ (Q_pick_t rfl (by with_reducible rfl) rfl rfl) rfl rfl ?_ | refine oQ (Q_pick_f rfl (by with_reducible rfl) rfl rfl) rfl rfl ?_
                 all_goals refine oN ?_
                 all_goals (
                  first | refine cT rfl ?_ | refine cF rfl ?_ | refine CW_cond rfl (fun hc => ?_) (fun hc => ?_)
                  all_goals try simp only [s1, s2, s3, s4, s5, s6, s7, s8, s9, s10, s11, s12] at hc
                  all_goals try (exfalso; first | omega | (simp at hc; done); done)
                  all_goals first
                    | (
                     refine CW_skip ?_)
                    | (
                     refine cR ?_
                     refine oA rfl rfl ?_
                     refine oN ?_
                     refine CW_ret ?_))
                 all_goals first
                   | with_reducible refine tR ?_
                   | with_reducible refine tE ?_
                   | (
                    with_reducible refine tN ?_
                    refine cR ?_
                    refine oA rfl rfl ?_
                    refine oN ?_
                    refine CW_ret ?_))))))
    all_goals (
     first | ((refine exitQ (.inr rfl) 1 (.cons (.tmp rfl rfl) .nil) ?_ rfl (vHc rfl vHn) rfl rfl); rfl) | (exfalso; simp at hg; done) | (exfalso; simp_all; done))
theorem law_FnExactMoebiusOf_nr (p : Int) (l2 : List Int) (o2 m k2 : Nat) (hl2 : l2.length = m) (hmm : m ≤ 1000000000000000) : ConQ Try.prog [] 4 [.int p, .nilsl, .slice 0 o2 m k2] [(0, .ro o2 l2)] (.bool true) := by
  have hr1 := roomN_le 0
  have hr2 := roomN_le m
  by_cases hbig : 1000000 < (0 : Int) + ((m : Nat) : Int)
  · skip
    refine conW tab_ok [(0, .int p), (1, .nilsl), (2, .slice 0 o2 m k2)] 1 [0] [] Try.func4 rfl rfl rfl rfl rfl rfl rfl rfl rfl ?_
    refine cR ?_
    refine oA rfl rfl ?_
    refine oN ?_
    refine CW_seq ?_
    refine cR ?_
    refine oM rfl rfl ?_
    first | refine oQ (Q_len rfl rfl rfl rfl) rfl rfl ?_ | refine oQ (Q_len0 rfl rfl rfl rfl) rfl rfl ?_
    refine oM rfl rfl ?_
    first | refine oQ (Q_len rfl rfl rfl rfl) rfl rfl ?_ | refine oQ (Q_len0 rfl rfl rfl rfl) rfl rfl ?_
    first | refine oQ (Q_binu rfl rfl rfl (by omega)) rfl rfl ?_ | refine oQ (Q_bin rfl rfl rfl) rfl rfl ?_
    refine oQ (Q_bin rfl rfl rfl) rfl rfl ?_
    refine oN ?_
    first | refine cT rfl ?_ | refine cF rfl ?_ | refine CW_cond rfl (fun hc => ?_) (fun hc => ?_)
    all_goals try simp only [s1, s2, s3, s4, s5, s6, s7, s8, s9, s10, s11, s12] at hc
    all_goals try (exfalso; first | omega | (simp at hc; done); done)
    all_goals first
      | (
       refine CW_skip ?_)
      | (
       refine cR ?_
       refine oA rfl rfl ?_
       refine oN ?_
       refine CW_ret ?_)
    all_goals first
      | with_reducible refine tR ?_
      | with_reducible refine tE ?_
      | (
       with_reducible refine tN ?_
       refine cR ?_
       iterate 2 refine oM rfl rfl ?_
       (exfalso; omega)
       refine oM rfl rfl ?_
       fail "call of loop.example/g01310/laws.toInt64S at slot 26"
       fail "call of loop.example/g01310/spec.MoebiusOf at slot 27"
       refine oM rfl rfl ?_
       iterate 2 refine oQ (Q_extract rfl rfl) rfl rfl ?_
       refine oAlloc rfl rfl rfl rfl rfl rfl rfl ?_
       first | refine oSw rfl rfl rfl rfl ?_ | refine oSa rfl rfl rfl rfl ?_
       refine oA rfl rfl ?_
       refine oN ?_
       refine cR ?_
       refine oM rfl rfl ?_
       fail "call of loop.example/g01310/laws.toInt64S at slot 31"
       refine oA rfl rfl ?_
       refine oN ?_
       refine cR ?_
       refine oM rfl rfl ?_
       fail "call of loop.example/g01310/laws.toInt64S at slot 33"
       refine oA rfl rfl ?_
       refine oN ?_
       refine cR ?_
       iterate 3 refine oM rfl rfl ?_
       fail "call of loop.example/g01310/impl.MoebiusOf at slot 38"
       refine oM rfl rfl ?_
       iterate 2 refine oQ (Q_extract rfl rfl) rfl rfl ?_
       refine oAlloc rfl rfl rfl rfl rfl rfl rfl ?_
       first | refine oSw rfl rfl rfl rfl ?_ | refine oSa rfl rfl rfl rfl ?_
       refine oA rfl rfl ?_
       refine oN ?_
       refine CW_seq ?_
       refine cR ?_
       first | refine oQ (Lw rfl rfl rfl rfl) rfl rfl ?_ | refine oQ (La rfl rfl rfl rfl rfl) rfl rfl ?_
       first | refine oQ (Lw rfl rfl rfl rfl) rfl rfl ?_ | refine oQ (La rfl rfl rfl rfl rfl) rfl rfl ?_
       fail "call of loop.example/g01310/laws.eqMoebius at slot 43"
       refine oQ (Q_not rfl) rfl rfl ?_
       refine oM rfl rfl ?_
       all_goals first | refine oT rfl rfl ?_ | refine o1 rfl rfl rfl ?_ | refine o0 rfl rfl rfl ?_ | refine ogP1 rfl rfl rfl (fun hg => ?_) (fun hg => ?_) | refine ogP0 rfl rfl rfl (fun hg => ?_) (fun hg => ?_)
       all_goals try simp only [s1, s2, s3, s4, s5, s6, s7, s8, s9, s10, s11, s12] at hg
       all_goals first | (refine oM rfl rfl ?_) | skip
       all_goals first | refine oT rfl rfl ?_ | refine o1 rfl rfl rfl ?_ | refine o0 rfl rfl rfl ?_ | refine ogP1 rfl rfl rfl (fun hg => ?_) (fun hg => ?_) | refine ogP0 rfl rfl rfl (fun hg => ?_) (fun hg => ?_)
       all_goals try simp only [s1, s2, s3, s4, s5, s6, s7, s8, s9, s10, s11, s12] at hg
       all_goals first | (refine oM rfl rfl ?_) | skip
       all_goals first | refine oT rfl rfl ?_ | refine o1 rfl rfl rfl ?_ | refine o0 rfl rfl rfl ?_ | refine ogP1 rfl rfl rfl (fun hg => ?_) (fun hg => ?_) | refine ogP0 rfl rfl rfl (fun hg => ?_) (fun hg => ?_)
       all_goals try simp only [s1, s2, s3, s4, s5, s6, s7, s8, s9, s10, s11, s12] at hg
       all_goals first | (refine oQ (Q_bin rfl rfl rfl) rfl rfl ?_) | skip
       all_goals first | refine oQ (Q_pick_t rfl (by with_reducible rfl) rfl rfl) rfl rfl ?_ | refine oQ (Q_pick_f rfl (by with_reducible rfl) rfl rfl) rfl rfl ?_
       all_goals refine oN ?_
       all_goals (
        first | refine cT rfl ?_ | refine cF rfl ?_ | refine CW_cond rfl (fun hc => ?_) (fun hc => ?_)
        all_goals try simp only [s1, s2, s3, s4, s5, s6, s7, s8, s9, s10, s11, s12] at hc
        all_goals try (exfalso; first | omega | (simp at hc; done); done)
        all_goals first
          | (
           refine CW_skip ?_)
          | (
           refine cR ?_
           refine oA rfl rfl ?_
           refine oN ?_
           refine CW_ret ?_))
       all_goals first
         | with_reducible refine tR ?_
         | with_reducible refine tE ?_
         | (
          with_reducible refine tN ?_
          refine CW_seq ?_
          refine cR ?_
          iterate 2 refine oM rfl rfl ?_
          fail "call of loop.example/g01310/laws.toInt64S at slot 52"
          fail "call of loop.example/g01310/laws.intactInt64S at slot 53"
          refine oQ (Q_not rfl) rfl rfl ?_
          refine oN ?_
          first | refine cT rfl ?_ | refine cF rfl ?_ | refine CW_cond rfl (fun hc => ?_) (fun hc => ?_)
          all_goals try simp only [s1, s2, s3, s4, s5, s6, s7, s8, s9, s10, s11, s12] at hc
          all_goals try (exfalso; first | omega | (simp at hc; done); done)
          all_goals first
            | (
             refine CW_skip ?_)
            | (
             refine cR ?_
             refine oA rfl rfl ?_
             refine oN ?_
             refine CW_ret ?_)
          all_goals first
            | with_reducible refine tR ?_
            | with_reducible refine tE ?_
            | (
             with_reducible refine tN ?_
             refine CW_seq ?_
             refine cR ?_
             iterate 2 refine oM rfl rfl ?_
             fail "call of loop.example/g01310/laws.toInt64S at slot 57"
             fail "call of loop.example/g01310/laws.intactInt64S at slot 58"
             refine oQ (Q_not rfl) rfl rfl ?_
             refine oN ?_
             first | refine cT rfl ?_ | refine cF rfl ?_ | refine CW_cond rfl (fun hc => ?_) (fun hc => ?_)
             all_goals try simp only [s1, s2, s3, s4, s5, s6, s7, s8, s9, s10, s11, s12] at hc
             all_goals try (exfalso; first | omega | (simp at hc; done); done)
             all_goals first
               | (
                refine CW_skip ?_)
               | (
                refine cR ?_
                refine oA rfl rfl ?_
                refine oN ?_
                refine CW_ret ?_)
             all_goals first
               | with_reducible refine tR ?_
               | with_reducible refine tE ?_
               | (
                with_reducible refine tN ?_
                refine cR ?_
                iterate 2 refine oM rfl rfl ?_
                fail "call of loop.example/g01310/laws.toInt64S at slot 63"
                refine oM rfl rfl ?_
                fail "call of loop.example/g01310/laws.toInt64S at slot 65"
                fail "call of loop.example/g01310/impl.MoebiusOf at slot 66"
                refine oM rfl rfl ?_
                iterate 2 refine oQ (Q_extract rfl rfl) rfl rfl ?_
                refine oAlloc rfl rfl rfl rfl rfl rfl rfl ?_
                first | refine oSw rfl rfl rfl rfl ?_ | refine oSa rfl rfl rfl rfl ?_
                refine oA rfl rfl ?_
                refine oN ?_
                refine CW_seq ?_
                refine cR ?_
                first | refine oQ (Lw rfl rfl rfl rfl) rfl rfl ?_ | refine oQ (La rfl rfl rfl rfl rfl) rfl rfl ?_
                first | refine oQ (Lw rfl rfl rfl rfl) rfl rfl ?_ | refine oQ (La rfl rfl rfl rfl rfl) rfl rfl ?_
                fail "call of loop.example/g01310/laws.eqMoebius at slot 71"
                refine oQ (Q_not rfl) rfl rfl ?_
                refine oM rfl rfl ?_
                all_goals first | refine oT rfl rfl ?_ | refine o1 rfl rfl rfl ?_ | refine o0 rfl rfl rfl ?_ | refine ogP1 rfl rfl rfl (fun hg => ?_) (fun hg => ?_) | refine ogP0 rfl rfl rfl (fun hg => ?_) (fun hg => ?_)
                all_goals try simp only [s1, s2, s3, s4, s5, s6, s7, s8, s9, s10, s11, s12] at hg
                all_goals first | (refine oM rfl rfl ?_) | skip
                all_goals first | refine oT rfl rfl ?_ | refine o1 rfl rfl rfl ?_ | refine o0 rfl rfl rfl ?_ | refine ogP1 rfl rfl rfl (fun hg => ?_) (fun hg => ?_) | refine ogP0 rfl rfl rfl (fun hg => ?_) (fun hg => ?_)
                all_goals try simp only [s1, s2, s3, s4, s5, s6, s7, s8, s9, s10, s11, s12] at hg
                all_goals first | (refine oM rfl rfl ?_) | skip
                all_goals first | refine oT rfl rfl ?_ | refine o1 rfl rfl rfl ?_ | refine o0 rfl rfl rfl ?_ | refine ogP1 rfl rfl rfl (fun hg => ?_) (fun hg => ?_) | refine ogP0 rfl rfl rfl (fun hg => ?_) (fun hg => ?_)
                all_goals try simp only [s1, s2, s3, s4, s5, s6, s7, s8, s9, s10, s11, s12] at hg
                all_goals first | (refine oQ (Q_bin rfl rfl rfl) rfl rfl ?_) | skip
                all_goals first | refine oQ (Q_pick_t rfl (by with_reducible rfl) rfl rfl) rfl rfl ?_ | refine oQ (Q_pick_f rfl (by with_reducible rfl) rfl rfl) rfl rfl ?_
                all_goals refine oN ?_
                all_goals (
                 first | refine cT rfl ?_ | refine cF rfl ?_ | refine CW_cond rfl (fun hc => ?_) (fun hc => ?_)
                 all_goals try simp only [s1, s2, s3, s4, s5, s6, s7, s8, s9, s10, s11, s12] at hc
                 all_goals try (exfalso; first | omega | (simp at hc; done); done)
                 all_goals first
                   | (
                    refine CW_skip ?_)
                   | (
                    refine cR ?_
                    refine oA rfl rfl ?_
                    refine oN ?_
                    refine CW_ret ?_))
                all_goals first
                  | with_reducible refine tR ?_
                  | with_reducible refine tE ?_
                  | (
                   with_reducible refine tN ?_
                   refine cR ?_
                   refine oA rfl rfl ?_
                   refine oN ?_
                   refine CW_ret ?_)))))
    all_goals (
     first | ((refine exitQ (.inr rfl) 1 (.cons (.tmp rfl rfl) .nil) ?_ rfl (vHc rfl vHn) rfl rfl); rfl) | (exfalso; simp_all; done))
  · have hmo := mo_both p (([] : List Int) ++ [mark]) (l2 ++ (List.replicate (roomN m) mark)) 0 m (0 + roomN 0) (m + roomN m) (by simp; try omega) (by simp; try omega) (by omega) (by omega) (by omega) (by omega)
    obtain ⟨v, e, hv, hs, hi, hz⟩ := hmo
    have h00 := impl_Mo_nn p
    have h0r := fun (X : List Int) (q : Nat) => impl_Mo_nr p X q 2
    have hr0 := fun (X : List Int) (q : Nat) => impl_Mo_rn p X q 2
    refine conW tab_ok [(0, .int p), (1, .nilsl), (2, .slice 0 o2 m k2)] 1 [0] [] Try.func4 rfl rfl rfl rfl rfl rfl rfl rfl rfl ?_
    refine cR ?_
    refine oA rfl rfl ?_
    refine oN ?_
    refine CW_seq ?_
    refine cR ?_
    refine oM rfl rfl ?_
    first | refine oQ (Q_len rfl rfl rfl rfl) rfl rfl ?_ | refine oQ (Q_len0 rfl rfl rfl rfl) rfl rfl ?_
    refine oM rfl rfl ?_
    first | refine oQ (Q_len rfl rfl rfl rfl) rfl rfl ?_ | refine oQ (Q_len0 rfl rfl rfl rfl) rfl rfl ?_
    first | refine oQ (Q_binu rfl rfl rfl (by omega)) rfl rfl ?_ | refine oQ (Q_bin rfl rfl rfl) rfl rfl ?_
    refine oQ (Q_bin rfl rfl rfl) rfl rfl ?_
    refine oN ?_
    first | refine cT rfl ?_ | refine cF rfl ?_ | refine CW_cond rfl (fun hc => ?_) (fun hc => ?_)
    all_goals try simp only [s1, s2, s3, s4, s5, s6, s7, s8, s9, s10, s11, s12] at hc
    all_goals try (exfalso; first | omega | (simp at hc; done); done)
    all_goals first
      | (
       refine CW_skip ?_)
      | (
       refine cR ?_
       refine oA rfl rfl ?_
       refine oN ?_
       refine CW_ret ?_)
    all_goals first
      | with_reducible refine tR ?_
      | with_reducible refine tE ?_
      | (
       with_reducible refine tN ?_
       refine cR ?_
       iterate 2 refine oM rfl rfl ?_
       refine oCall (toInt64S_nil false) [] 2 rfl rfl (Fits.mk' vHn rfl rfl (by simp)) rfl rfl ?_
       rintro r H1 hR
       obtain ⟨rfl, rfl⟩ := cpR_f hR
       refine ⟨.slice 2 0 0 (0 + roomN 0), [(2, .ints 2 (([] : List Int) ++ [mark]))], rfl, rfl, rfl, ?_⟩
       refine oM rfl rfl ?_
       refine oCall (toInt64S_row l2 o2 m k2 false hl2 (by omega)) [] 2 rfl rfl (Fits.mk' (vHc rfl vHn) rfl rfl (by simp)) rfl rfl ?_
       rintro r H1 hR
       obtain ⟨rfl, rfl⟩ := cpR_f hR
       refine ⟨.slice 4 0 m (m + roomN m), [(0, .ro o2 l2), (4, .ints 2 (l2 ++ (List.replicate (roomN m) mark)))], rfl, rfl, rfl, ?_⟩
       refine oQ (Q_call (hs) [(0, 2), (1, 4)] rfl rfl (Fits.mk' (vHc rfl (vHc rfl vHn)) rfl rfl (by first | (simp; done) | exact glOk rfl rfl rfl)) rfl rfl) rfl rfl ?_
       refine oM rfl rfl ?_
       iterate 2 refine oQ (Q_extract rfl rfl) rfl rfl ?_
       refine oAlloc rfl rfl rfl rfl rfl rfl rfl ?_
       first | refine oSw rfl rfl rfl rfl ?_ | refine oSa rfl rfl rfl rfl ?_
       refine oA rfl rfl ?_
       refine oN ?_
       refine cR ?_
       refine oM rfl rfl ?_
       refine oCall (toInt64S_nil false) [] 2 rfl rfl (Fits.mk' vHn rfl rfl (by simp)) rfl rfl ?_
       rintro r H1 hR
       obtain ⟨rfl, rfl⟩ := cpR_f hR
       refine ⟨.slice 7 0 0 (0 + roomN 0), [(7, .ints 2 (([] : List Int) ++ [mark]))], rfl, rfl, rfl, ?_⟩
       refine oA rfl rfl ?_
       refine oN ?_
       refine cR ?_
       refine oM rfl rfl ?_
       refine oCall (toInt64S_row l2 o2 m k2 false hl2 (by omega)) [] 2 rfl rfl (Fits.mk' (vHc rfl vHn) rfl rfl (by simp)) rfl rfl ?_
       rintro r H1 hR
       obtain ⟨rfl, rfl⟩ := cpR_f hR
       refine ⟨.slice 9 0 m (m + roomN m), [(0, .ro o2 l2), (9, .ints 2 (l2 ++ (List.replicate (roomN m) mark)))], rfl, rfl, rfl, ?_⟩
       refine oA rfl rfl ?_
       refine oN ?_
       refine cR ?_
       iterate 3 refine oM rfl rfl ?_
       refine oQ (Q_call (hi) [(0, 7), (1, 9)] rfl rfl (Fits.mk' (vHc rfl (vHc rfl vHn)) rfl rfl (by first | (simp; done) | exact glOk rfl rfl rfl)) rfl rfl) rfl rfl ?_
       refine oM rfl rfl ?_
       iterate 2 refine oQ (Q_extract rfl rfl) rfl rfl ?_
       refine oAlloc rfl rfl rfl rfl rfl rfl rfl ?_
       first | refine oSw rfl rfl rfl rfl ?_ | refine oSa rfl rfl rfl rfl ?_
       refine oA rfl rfl ?_
       refine oN ?_
       refine CW_seq ?_
       refine cR ?_
       first | refine oQ (Lw rfl rfl rfl rfl) rfl rfl ?_ | refine oQ (La rfl rfl rfl rfl rfl) rfl rfl ?_
       first | refine oQ (Lw rfl rfl rfl rfl) rfl rfl ?_ | refine oQ (La rfl rfl rfl rfl rfl) rfl rfl ?_
       refine oQ (Q_call0 (eqMoebius_same v hv) rfl rfl rfl) rfl rfl ?_
       refine oQ (Q_not rfl) rfl rfl ?_
       refine oM rfl rfl ?_
       all_goals first | refine oT rfl rfl ?_ | refine o1 rfl rfl rfl ?_ | refine o0 rfl rfl rfl ?_ | refine ogP1 rfl rfl rfl (fun hg => ?_) (fun hg => ?_) | refine ogP0 rfl rfl rfl (fun hg => ?_) (fun hg => ?_)
       all_goals try simp only [s1, s2, s3, s4, s5, s6, s7, s8, s9, s10, s11, s12] at hg
       all_goals first | (refine oM rfl rfl ?_) | skip
       all_goals first | refine oT rfl rfl ?_ | refine o1 rfl rfl rfl ?_ | refine o0 rfl rfl rfl ?_ | refine ogP1 rfl rfl rfl (fun hg => ?_) (fun hg => ?_) | refine ogP0 rfl rfl rfl (fun hg => ?_) (fun hg => ?_)
       all_goals try simp only [s1, s2, s3, s4, s5, s6, s7, s8, s9, s10, s11, s12] at hg
       all_goals first | (refine oM rfl rfl ?_) | skip
       all_goals first | refine oT rfl rfl ?_ | refine o1 rfl rfl rfl ?_ | refine o0 rfl rfl rfl ?_ | refine ogP1 rfl rfl rfl (fun hg => ?_) (fun hg => ?_) | refine ogP0 rfl rfl rfl (fun hg => ?_) (fun hg => ?_)
       all_goals try simp only [s1, s2, s3, s4, s5, s6, s7, s8, s9, s10, s11, s12] at hg
       all_goals first | (refine oQ (Q_bin rfl rfl rfl) rfl rfl ?_) | skip
       all_goals first | refine oQ (Q_pick_t rfl (by with_reducible rfl) rfl rfl) rfl rfl ?_ | refine oQ (Q_pick_f rfl (by with_reducible rfl) rfl rfl) rfl rfl ?_
       all_goals refine oN ?_
       all_goals (
        first | refine cT rfl ?_ | refine cF rfl ?_ | refine CW_cond rfl (fun hc => ?_) (fun hc => ?_)
        all_goals try simp only [s1, s2, s3, s4, s5, s6, s7, s8, s9, s10, s11, s12] at hc
        all_goals try (exfalso; first | omega | (simp at hc; done); done)
        all_goals first
          | (
           refine CW_skip ?_)
          | (
           refine cR ?_
           refine oA rfl rfl ?_
           refine oN ?_
           refine CW_ret ?_))
       all_goals first
         | with_reducible refine tR ?_
         | with_reducible refine tE ?_
         | (
          with_reducible refine tN ?_
          refine CW_seq ?_
          refine cR ?_
          iterate 2 refine oM rfl rfl ?_
          refine oCall (toInt64S_nil false) [] 2 rfl rfl (Fits.mk' vHn rfl rfl (by simp)) rfl rfl ?_
          rintro r H1 hR
          obtain ⟨rfl, rfl⟩ := cpR_f hR
          refine ⟨.slice 12 0 0 (0 + roomN 0), [(12, .ints 2 (([] : List Int) ++ [mark]))], rfl, rfl, rfl, ?_⟩
          refine oQ (Q_call (intactInt64S_con 2 2 (([] : List Int) ++ [mark]) (([] : List Int) ++ [mark]) 0 (by simp [roomN]) (by simp [roomN]) (by omega)) [(0, 7), (1, 12)] rfl rfl (Fits.mk' (vHc rfl (vHc rfl vHn)) rfl rfl (by first | (simp; done) | exact glOk rfl rfl rfl)) rfl rfl) rfl rfl ?_
          refine oQ (Q_not rfl) rfl rfl ?_
          refine oN ?_
          first | refine cT rfl ?_ | refine cF rfl ?_ | refine CW_cond rfl (fun hc => ?_) (fun hc => ?_)
          all_goals try simp only [s1, s2, s3, s4, s5, s6, s7, s8, s9, s10, s11, s12] at hc
          all_goals try (exfalso; first | omega | (simp at hc; done); done)
          all_goals first
            | (
             refine CW_skip ?_)
            | (
             refine cR ?_
             refine oA rfl rfl ?_
             refine oN ?_
             refine CW_ret ?_)
          all_goals first
            | with_reducible refine tR ?_
            | with_reducible refine tE ?_
            | (
             with_reducible refine tN ?_
             refine CW_seq ?_
             refine cR ?_
             iterate 2 refine oM rfl rfl ?_
             refine oCall (toInt64S_row l2 o2 m k2 false hl2 (by omega)) [] 2 rfl rfl (Fits.mk' (vHc rfl vHn) rfl rfl (by simp)) rfl rfl ?_
             rintro r H1 hR
             obtain ⟨rfl, rfl⟩ := cpR_f hR
             refine ⟨.slice 14 0 m (m + roomN m), [(0, .ro o2 l2), (14, .ints 2 (l2 ++ (List.replicate (roomN m) mark)))], rfl, rfl, rfl, ?_⟩
             refine oQ (Q_call (intactInt64S_con 2 2 (l2 ++ (List.replicate (roomN m) mark)) (l2 ++ (List.replicate (roomN m) mark)) m (by simp [hl2]) (by simp [hl2]) (by omega)) [(0, 9), (1, 14)] rfl rfl (Fits.mk' (vHc rfl (vHc rfl vHn)) rfl rfl (by first | (simp; done) | exact glOk rfl rfl rfl)) rfl rfl) rfl rfl ?_
             refine oQ (Q_not rfl) rfl rfl ?_
             refine oN ?_
             first | refine cT rfl ?_ | refine cF rfl ?_ | refine CW_cond rfl (fun hc => ?_) (fun hc => ?_)
             all_goals try simp only [s1, s2, s3, s4, s5, s6, s7, s8, s9, s10, s11, s12] at hc
             all_goals try (exfalso; first | omega | (simp at hc; done); done)
             all_goals first
               | (
                refine CW_skip ?_)
               | (
                refine cR ?_
                refine oA rfl rfl ?_
                refine oN ?_
                refine CW_ret ?_)
             all_goals first
               | with_reducible refine tR ?_
               | with_reducible refine tE ?_
               | (
                with_reducible refine tN ?_
                refine cR ?_
                iterate 2 refine oM rfl rfl ?_
                refine oCall (toInt64S_nil true) [] 2 rfl rfl (Fits.mk' vHn rfl rfl (by simp)) rfl rfl ?_
                rintro r H1 hR
                rcases cpR_t hR with ⟨e0, rfl, rfl⟩ | ⟨rfl, rfl⟩
                all_goals first | refine ⟨.nilsl, [], rfl, rfl, rfl, ?_⟩ | refine ⟨.slice 16 0 0 (0 + roomN 0), [(16, .ints 2 (([] : List Int) ++ [mark]))], rfl, rfl, rfl, ?_⟩
                all_goals first | (refine oM rfl rfl ?_)
                all_goals first | (refine oCall (toInt64S_row l2 o2 m k2 true hl2 (by omega)) [] 2 rfl rfl (Fits.mk' (vHc rfl vHn) rfl rfl (by simp)) rfl rfl ?_; rintro r H1 hR; rcases cpR_t hR with ⟨e1, rfl, rfl⟩ | ⟨rfl, rfl⟩; all_goals first | refine ⟨.nilsl, [(0, .ro o2 l2)], rfl, rfl, rfl, ?_⟩ | refine ⟨.slice 18 0 m (m + roomN m), [(0, .ro o2 l2), (18, .ints 2 (l2 ++ (List.replicate (roomN m) mark)))], rfl, rfl, rfl, ?_⟩)
                all_goals first | (obtain ⟨rfl, rfl⟩ := hz (by omega); refine oQ (Q_call0 h00 rfl rfl rfl) rfl rfl ?_) | (obtain ⟨rfl, rfl⟩ := hz (by omega); refine oQ (Q_call (h0r (l2 ++ (List.replicate (roomN m) mark)) m (m + roomN m)) [(0, 18)] rfl rfl (Fits.mk' (vHc rfl vHn) rfl rfl (by simp)) rfl rfl) rfl rfl ?_) | (obtain ⟨rfl, rfl⟩ := hz (by omega); refine oQ (Q_call (hr0 (([] : List Int) ++ [mark]) 0 (0 + roomN 0)) [(0, 16)] rfl rfl (Fits.mk' (vHc rfl vHn) rfl rfl (by simp)) rfl rfl) rfl rfl ?_) | refine oQ (Q_call hi [(0, 16), (1, 18)] rfl rfl (Fits.mk' (vHc rfl (vHc rfl vHn)) rfl rfl (by simp)) rfl rfl) rfl rfl ?_
                all_goals first | (refine oM rfl rfl ?_)
                all_goals first | (refine oQ (Q_extract rfl rfl) rfl rfl ?_)
                all_goals first | (refine oQ (Q_extract rfl rfl) rfl rfl ?_)
                all_goals first | (refine oAlloc rfl rfl rfl rfl rfl rfl rfl ?_)
                all_goals first | refine oSw rfl rfl rfl rfl ?_ | refine oSa rfl rfl rfl rfl ?_
                all_goals first | (refine oA rfl rfl ?_)
                all_goals refine oN ?_
                all_goals (
                 refine CW_seq ?_
                 refine cR ?_
                 first | refine oQ (Lw rfl rfl rfl rfl) rfl rfl ?_ | refine oQ (La rfl rfl rfl rfl rfl) rfl rfl ?_
                 first | refine oQ (Lw rfl rfl rfl rfl) rfl rfl ?_ | refine oQ (La rfl rfl rfl rfl rfl) rfl rfl ?_
                 first | (refine oQ (Q_call0 (eqMoebius_same v hv) rfl rfl rfl) rfl rfl ?_) | (refine oQ (Q_call0 (eqMoebius_same [0, 0, 0, 0] rfl) rfl rfl rfl) rfl rfl ?_)
                 refine oQ (Q_not rfl) rfl rfl ?_
                 refine oM rfl rfl ?_
                 all_goals first | refine oT rfl rfl ?_ | refine o1 rfl rfl rfl ?_ | refine o0 rfl rfl rfl ?_ | refine ogP1 rfl rfl rfl (fun hg => ?_) (fun hg => ?_) | refine ogP0 rfl rfl rfl (fun hg => ?_) (fun hg => ?_)
                 all_goals try simp only [s1, s2, s3, s4, s5, s6, s7, s8, s9, s10, s11, s12] at hg
                 all_goals first | (refine oM rfl rfl ?_) | skip
                 all_goals first | refine oT rfl rfl ?_ | refine o1 rfl rfl rfl ?_ | refine o0 rfl rfl rfl ?_ | refine ogP1 rfl rfl rfl (fun hg => ?_) (fun hg => ?_) | refine ogP0 rfl rfl rfl (fun hg => ?_) (fun hg => ?_)
                 all_goals try simp only [s1, s2, s3, s4, s5, s6, s7, s8, s9, s10, s11, s12] at hg
                 all_goals first | (refine oM rfl rfl ?_) | skip
                 all_goals first | refine oT rfl rfl ?_ | refine o1 rfl rfl rfl ?_ | refine o0 rfl rfl rfl ?_ | refine ogP1 rfl rfl rfl (fun hg => ?_) (fun hg => ?_) | refine ogP0 rfl rfl rfl (fun hg => ?_) (fun hg => ?_)
                 all_goals try simp only [s1, s2, s3, s4, s5, s6, s7, s8, s9, s10, s11, s12] at hg
                 all_goals first | (refine oQ (Q_bin rfl rfl rfl) rfl rfl ?_) | skip
                 all_goals first | refine oQ (Q_pick_t rfl (by with_reducible rfl) rfl rfl) rfl rfl ?_ | refine oQ (Q_pick_f rfl (by with_reducible rfl) rfl rfl) rfl rfl ?_
                 all_goals refine oN ?_
                 all_goals (
                  first | refine cT rfl ?_ | refine cF rfl ?_ | refine CW_cond rfl (fun hc => ?_) (fun hc => ?_)
                  all_goals try simp only [s1, s2, s3, s4, s5, s6, s7, s8, s9, s10, s11, s12] at hc
                  all_goals try (exfalso; first | omega | (simp at hc; done); done)
                  all_goals first
                    | (
                     refine CW_skip ?_)
                    | (
                     refine cR ?_
                     refine oA rfl rfl ?_
                     refine oN ?_
                     refine CW_ret ?_))
                 all_goals first
                   | with_reducible refine tR ?_
                   | with_reducible refine tE ?_
                   | (
                    with_reducible refine tN ?_
                    refine cR ?_
                    refine oA rfl rfl ?_
                    refine oN ?_
                    refine CW_ret ?_))))))
    all_goals (
     first | ((refine exitQ (.inr rfl) 1 (.cons (.tmp rfl rfl) .nil) ?_ rfl (vHc rfl vHn) rfl rfl); rfl) | (exfalso; simp at hg; done) | (exfalso; simp_all; done))
theorem law_FnExactMoebiusOf_nn (p : Int) : ConQ Try.prog [] 4 [.int p, .nilsl, .nilsl] [] (.bool true) := by
  have hr1 := roomN_le 0
  have hr2 := roomN_le 0
  have hbig : True := trivial
  have hmo := mo_both p (([] : List Int) ++ [mark]) (([] : List Int) ++ [mark]) 0 0 (0 + roomN 0) (0 + roomN 0) (by simp; try omega) (by simp; try omega) (by omega) (by omega) (by omega) (by omega)
  obtain ⟨v, e, hv, hs, hi, hz⟩ := hmo
  have h00 := impl_Mo_nn p
  have h0r := fun (X : List Int) (q : Nat) => impl_Mo_nr p X q 2
  have hr0 := fun (X : List Int) (q : Nat) => impl_Mo_rn p X q 2
  refine conW tab_ok [(0, .int p), (1, .nilsl), (2, .nilsl)] 0 [] [] Try.func4 rfl rfl rfl rfl rfl rfl rfl rfl rfl ?_
  refine cR ?_
  refine oA rfl rfl ?_
  refine oN ?_
  refine CW_seq ?_
  refine cR ?_
  refine oM rfl rfl ?_
  first | refine oQ (Q_len rfl rfl rfl rfl) rfl rfl ?_ | refine oQ (Q_len0 rfl rfl rfl rfl) rfl rfl ?_
  refine oM rfl rfl ?_
  first | refine oQ (Q_len rfl rfl rfl rfl) rfl rfl ?_ | refine oQ (Q_len0 rfl rfl rfl rfl) rfl rfl ?_
  first | refine oQ (Q_binu rfl rfl rfl (by omega)) rfl rfl ?_ | refine oQ (Q_bin rfl rfl rfl) rfl rfl ?_
  refine oQ (Q_bin rfl rfl rfl) rfl rfl ?_
  refine oN ?_
  first | refine cT rfl ?_ | refine cF rfl ?_ | refine CW_cond rfl (fun hc => ?_) (fun hc => ?_)
  all_goals try simp only [s1, s2, s3, s4, s5, s6, s7, s8, s9, s10, s11, s12] at hc
  all_goals try (exfalso; first | omega | (simp at hc; done); done)
  all_goals first
    | (
     refine CW_skip ?_)
    | (
     refine cR ?_
     refine oA rfl rfl ?_
     refine oN ?_
     refine CW_ret ?_)
  all_goals first
    | with_reducible refine tR ?_
    | with_reducible refine tE ?_
    | (
     with_reducible refine tN ?_
     refine cR ?_
     iterate 2 refine oM rfl rfl ?_
     refine oCall (toInt64S_nil false) [] 2 rfl rfl (Fits.mk' vHn rfl rfl (by simp)) rfl rfl ?_
     rintro r H1 hR
     obtain ⟨rfl, rfl⟩ := cpR_f hR
     refine ⟨.slice 1 0 0 (0 + roomN 0), [(1, .ints 2 (([] : List Int) ++ [mark]))], rfl, rfl, rfl, ?_⟩
     refine oM rfl rfl ?_
     refine oCall (toInt64S_nil false) [] 2 rfl rfl (Fits.mk' vHn rfl rfl (by simp)) rfl rfl ?_
     rintro r H1 hR
     obtain ⟨rfl, rfl⟩ := cpR_f hR
     refine ⟨.slice 3 0 0 (0 + roomN 0), [(3, .ints 2 (([] : List Int) ++ [mark]))], rfl, rfl, rfl, ?_⟩
     refine oQ (Q_call (hs) [(0, 1), (1, 3)] rfl rfl (Fits.mk' (vHc rfl (vHc rfl vHn)) rfl rfl (by first | (simp; done) | exact glOk rfl rfl rfl)) rfl rfl) rfl rfl ?_
     refine oM rfl rfl ?_
     iterate 2 refine oQ (Q_extract rfl rfl) rfl rfl ?_
     refine oAlloc rfl rfl rfl rfl rfl rfl rfl ?_
     first | refine oSw rfl rfl rfl rfl ?_ | refine oSa rfl rfl rfl rfl ?_
     refine oA rfl rfl ?_
     refine oN ?_
     refine cR ?_
     refine oM rfl rfl ?_
     refine oCall (toInt64S_nil false) [] 2 rfl rfl (Fits.mk' vHn rfl rfl (by simp)) rfl rfl ?_
     rintro r H1 hR
     obtain ⟨rfl, rfl⟩ := cpR_f hR
     refine ⟨.slice 6 0 0 (0 + roomN 0), [(6, .ints 2 (([] : List Int) ++ [mark]))], rfl, rfl, rfl, ?_⟩
     refine oA rfl rfl ?_
     refine oN ?_
     refine cR ?_
     refine oM rfl rfl ?_
     refine oCall (toInt64S_nil false) [] 2 rfl rfl (Fits.mk' vHn rfl rfl (by simp)) rfl rfl ?_
     rintro r H1 hR
     obtain ⟨rfl, rfl⟩ := cpR_f hR
     refine ⟨.slice 8 0 0 (0 + roomN 0), [(8, .ints 2 (([] : List Int) ++ [mark]))], rfl, rfl, rfl, ?_⟩
     refine oA rfl rfl ?_
     refine oN ?_
     refine cR ?_
     iterate 3 refine oM rfl rfl ?_
     refine oQ (Q_call (hi) [(0, 6), (1, 8)] rfl rfl (Fits.mk' (vHc rfl (vHc rfl vHn)) rfl rfl (by first | (simp; done) | exact glOk rfl rfl rfl)) rfl rfl) rfl rfl ?_
     refine oM rfl rfl ?_
     iterate 2 refine oQ (Q_extract rfl rfl) rfl rfl ?_
     refine oAlloc rfl rfl rfl rfl rfl rfl rfl ?_
     first | refine oSw rfl rfl rfl rfl ?_ | refine oSa rfl rfl rfl rfl ?_
     refine oA rfl rfl ?_
     refine oN ?_
     refine CW_seq ?_
     refine cR ?_
     first | refine oQ (Lw rfl rfl rfl rfl) rfl rfl ?_ | refine oQ (La rfl rfl rfl rfl rfl) rfl rfl ?_
     first | refine oQ (Lw rfl rfl rfl rfl) rfl rfl ?_ | refine oQ (La rfl rfl rfl rfl rfl) rfl rfl ?_
     refine oQ (Q_call0 (eqMoebius_same v hv) rfl rfl rfl) rfl rfl ?_
     refine oQ (Q_not rfl) rfl rfl ?_
     refine oM rfl rfl ?_
     all_goals first | refine oT rfl rfl ?_ | refine o1 rfl rfl rfl ?_ | refine o0 rfl rfl rfl ?_ | refine ogP1 rfl rfl rfl (fun hg => ?_) (fun hg => ?_) | refine ogP0 rfl rfl rfl (fun hg => ?_) (fun hg => ?_)
     all_goals try simp only [s1, s2, s3, s4, s5, s6, s7, s8, s9, s10, s11, s12] at hg
     all_goals first | (refine oM rfl rfl ?_) | skip
     all_goals first | refine oT rfl rfl ?_ | refine o1 rfl rfl rfl ?_ | refine o0 rfl rfl rfl ?_ | refine ogP1 rfl rfl rfl (fun hg => ?_) (fun hg => ?_) | refine ogP0 rfl rfl rfl (fun hg => ?_) (fun hg => ?_)
     all_goals try simp only [s1, s2, s3, s4, s5, s6, s7, s8, s9, s10, s11, s12] at hg
     all_goals first | (refine oM rfl rfl ?_) | skip
     all_goals first | refine oT rfl rfl ?_ | refine o1 rfl rfl rfl ?_ | refine o0 rfl rfl rfl ?_ | refine ogP1 rfl rfl rfl (fun hg => ?_) (fun hg => ?_) | refine ogP0 rfl rfl rfl (fun hg => ?_) (fun hg => ?_)
     all_goals try simp only [s1, s2, s3, s4, s5, s6, s7, s8, s9, s10, s11, s12] at hg
     all_goals first | (refine oQ (Q_bin rfl rfl rfl) rfl rfl ?_) | skip
     all_goals first | refine oQ (Q_pick_t rfl (by with_reducible rfl) rfl rfl) rfl rfl ?_ | refine oQ (Q_pick_f rfl (by with_reducible rfl) rfl rfl) rfl rfl ?_
     all_goals refine oN ?_
     all_goals (
      first | refine cT rfl ?_ | refine cF rfl ?_ | refine CW_cond rfl (fun hc => ?_) (fun hc => ?_)
      all_goals try simp only [s1, s2, s3, s4, s5, s6, s7, s8, s9, s10, s11, s12] at hc
      all_goals try (exfalso; first | omega | (simp at hc; done); done)
      all_goals first
        | (
         refine CW_skip ?_)
        | (
         refine cR ?_
         refine oA rfl rfl ?_
         refine oN ?_
         refine CW_ret ?_))
     all_goals first
       | with_reducible refine tR ?_
       | with_reducible refine tE ?_
       | (
        with_reducible refine tN ?_
        refine CW_seq ?_
        refine cR ?_
        iterate 2 refine oM rfl rfl ?_
        refine oCall (toInt64S_nil false) [] 2 rfl rfl (Fits.mk' vHn rfl rfl (by simp)) rfl rfl ?_
        rintro r H1 hR
        obtain ⟨rfl, rfl⟩ := cpR_f hR
        refine ⟨.slice 11 0 0 (0 + roomN 0), [(11, .ints 2 (([] : List Int) ++ [mark]))], rfl, rfl, rfl, ?_⟩
        refine oQ (Q_call (intactInt64S_con 2 2 (([] : List Int) ++ [mark]) (([] : List Int) ++ [mark]) 0 (by simp [roomN]) (by simp [roomN]) (by omega)) [(0, 6), (1, 11)] rfl rfl (Fits.mk' (vHc rfl (vHc rfl vHn)) rfl rfl (by first | (simp; done) | exact glOk rfl rfl rfl)) rfl rfl) rfl rfl ?_
        refine oQ (Q_not rfl) rfl rfl ?_
        refine oN ?_
        first | refine cT rfl ?_ | refine cF rfl ?_ | refine CW_cond rfl (fun hc => ?_) (fun hc => ?_)
        all_goals try simp only [s1, s2, s3, s4, s5, s6, s7, s8, s9, s10, s11, s12] at hc
        all_goals try (exfalso; first | omega | (simp at hc; done); done)
        all_goals first
          | (
           refine CW_skip ?_)
          | (
           refine cR ?_
           refine oA rfl rfl ?_
           refine oN ?_
           refine CW_ret ?_)
        all_goals first
          | with_reducible refine tR ?_
          | with_reducible refine tE ?_
          | (
           with_reducible refine tN ?_
           refine CW_seq ?_
           refine cR ?_
           iterate 2 refine oM rfl rfl ?_
           refine oCall (toInt64S_nil false) [] 2 rfl rfl (Fits.mk' vHn rfl rfl (by simp)) rfl rfl ?_
           rintro r H1 hR
           obtain ⟨rfl, rfl⟩ := cpR_f hR
           refine ⟨.slice 13 0 0 (0 + roomN 0), [(13, .ints 2 (([] : List Int) ++ [mark]))], rfl, rfl, rfl, ?_⟩
           refine oQ (Q_call (intactInt64S_con 2 2 (([] : List Int) ++ [mark]) (([] : List Int) ++ [mark]) 0 (by simp [roomN]) (by simp [roomN]) (by omega)) [(0, 8), (1, 13)] rfl rfl (Fits.mk' (vHc rfl (vHc rfl vHn)) rfl rfl (by first | (simp; done) | exact glOk rfl rfl rfl)) rfl rfl) rfl rfl ?_
           refine oQ (Q_not rfl) rfl rfl ?_
           refine oN ?_
           first | refine cT rfl ?_ | refine cF rfl ?_ | refine CW_cond rfl (fun hc => ?_) (fun hc => ?_)
           all_goals try simp only [s1, s2, s3, s4, s5, s6, s7, s8, s9, s10, s11, s12] at hc
           all_goals try (exfalso; first | omega | (simp at hc; done); done)
           all_goals first
             | (
              refine CW_skip ?_)
             | (
              refine cR ?_
              refine oA rfl rfl ?_
              refine oN ?_
              refine CW_ret ?_)
           all_goals first
             | with_reducible refine tR ?_
             | with_reducible refine tE ?_
             | (
              with_reducible refine tN ?_
              refine cR ?_
              iterate 2 refine oM rfl rfl ?_
              refine oCall (toInt64S_nil true) [] 2 rfl rfl (Fits.mk' vHn rfl rfl (by simp)) rfl rfl ?_
              rintro r H1 hR
              rcases cpR_t hR with ⟨e0, rfl, rfl⟩ | ⟨rfl, rfl⟩
              all_goals first | refine ⟨.nilsl, [], rfl, rfl, rfl, ?_⟩ | refine ⟨.slice 15 0 0 (0 + roomN 0), [(15, .ints 2 (([] : List Int) ++ [mark]))], rfl, rfl, rfl, ?_⟩
              all_goals first | (refine oM rfl rfl ?_)
              all_goals first | (refine oCall (toInt64S_nil true) [] 2 rfl rfl (Fits.mk' vHn rfl rfl (by simp)) rfl rfl ?_; rintro r H1 hR; rcases cpR_t hR with ⟨e1, rfl, rfl⟩ | ⟨rfl, rfl⟩; all_goals first | refine ⟨.nilsl, [], rfl, rfl, rfl, ?_⟩ | refine ⟨.slice 17 0 0 (0 + roomN 0), [(17, .ints 2 (([] : List Int) ++ [mark]))], rfl, rfl, rfl, ?_⟩)
              all_goals first | (obtain ⟨rfl, rfl⟩ := hz (by omega); refine oQ (Q_call0 h00 rfl rfl rfl) rfl rfl ?_) | (obtain ⟨rfl, rfl⟩ := hz (by omega); refine oQ (Q_call (h0r (([] : List Int) ++ [mark]) 0 (0 + roomN 0)) [(0, 17)] rfl rfl (Fits.mk' (vHc rfl vHn) rfl rfl (by simp)) rfl rfl) rfl rfl ?_) | (obtain ⟨rfl, rfl⟩ := hz (by omega); refine oQ (Q_call (hr0 (([] : List Int) ++ [mark]) 0 (0 + roomN 0)) [(0, 15)] rfl rfl (Fits.mk' (vHc rfl vHn) rfl rfl (by simp)) rfl rfl) rfl rfl ?_) | refine oQ (Q_call hi [(0, 15), (1, 17)] rfl rfl (Fits.mk' (vHc rfl (vHc rfl vHn)) rfl rfl (by simp)) rfl rfl) rfl rfl ?_
              all_goals first | (refine oM rfl rfl ?_)
              all_goals first | (refine oQ (Q_extract rfl rfl) rfl rfl ?_)
              all_goals first | (refine oQ (Q_extract rfl rfl) rfl rfl ?_)
              all_goals first | (refine oAlloc rfl rfl rfl rfl rfl rfl rfl ?_)
              all_goals first | refine oSw rfl rfl rfl rfl ?_ | refine oSa rfl rfl rfl rfl ?_
              all_goals first | (refine oA rfl rfl ?_)
              all_goals refine oN ?_
              all_goals (
               refine CW_seq ?_
               refine cR ?_
               first | refine oQ (Lw rfl rfl rfl rfl) rfl rfl ?_ | refine oQ (La rfl rfl rfl rfl rfl) rfl rfl ?_
               first | refine oQ (Lw rfl rfl rfl rfl) rfl rfl ?_ | refine oQ (La rfl rfl rfl rfl rfl) rfl rfl ?_
               first | (refine oQ (Q_call0 (eqMoebius_same v hv) rfl rfl rfl) rfl rfl ?_) | (refine oQ (Q_call0 (eqMoebius_same [0, 0, 0, 0] rfl) rfl rfl rfl) rfl rfl ?_)
               refine oQ (Q_not rfl) rfl rfl ?_
               refine oM rfl rfl ?_
               all_goals first | refine oT rfl rfl ?_ | refine o1 rfl rfl rfl ?_ | refine o0 rfl rfl rfl ?_ | refine ogP1 rfl rfl rfl (fun hg => ?_) (fun hg => ?_) | refine ogP0 rfl rfl rfl (fun hg => ?_) (fun hg => ?_)
               all_goals try simp only [s1, s2, s3, s4, s5, s6, s7, s8, s9, s10, s11, s12] at hg
               all_goals first | (refine oM rfl rfl ?_) | skip
               all_goals first | refine oT rfl rfl ?_ | refine o1 rfl rfl rfl ?_ | refine o0 rfl rfl rfl ?_ | refine ogP1 rfl rfl rfl (fun hg => ?_) (fun hg => ?_) | refine ogP0 rfl rfl rfl (fun hg => ?_) (fun hg => ?_)
               all_goals try simp only [s1, s2, s3, s4, s5, s6, s7, s8, s9, s10, s11, s12] at hg
               all_goals first | (refine oM rfl rfl ?_) | skip
               all_goals first | refine oT rfl rfl ?_ | refine o1 rfl rfl rfl ?_ | refine o0 rfl rfl rfl ?_ | refine ogP1 rfl rfl rfl (fun hg => ?_) (fun hg => ?_) | refine ogP0 rfl rfl rfl (fun hg => ?_) (fun hg => ?_)
               all_goals try simp only [s1, s2, s3, s4, s5, s6, s7, s8, s9, s10, s11, s12] at hg
               all_goals first | (refine oQ (Q_bin rfl rfl rfl) rfl rfl ?_) | skip
               all_goals first | refine oQ (Q_pick_t rfl (by with_reducible rfl) rfl rfl) rfl rfl ?_ | refine oQ (Q_pick_f rfl (by with_reducible rfl) rfl rfl) rfl rfl ?_
               all_goals refine oN ?_
               all_goals (
                first | refine cT rfl ?_ | refine cF rfl ?_ | refine CW_cond rfl (fun hc => ?_) (fun hc => ?_)
                all_goals try simp only [s1, s2, s3, s4, s5, s6, s7, s8, s9, s10, s11, s12] at hc
                all_goals try (exfalso; first | omega | (simp at hc; done); done)
                all_goals first
                  | (
                   refine CW_skip ?_)
                  | (
                   refine cR ?_
                   refine oA rfl rfl ?_
                   refine oN ?_
                   refine CW_ret ?_))
               all_goals first
                 | with_reducible refine tR ?_
                 | with_reducible refine tE ?_
                 | (
                  with_reducible refine tN ?_
                  refine cR ?_
                  refine oA rfl rfl ?_
                  refine oN ?_
                  refine CW_ret ?_))))))
  all_goals (
   first | ((refine exitQ (.inr rfl) 0 (.cons (.tmp rfl rfl) .nil) ?_ rfl vHn rfl rfl); rfl) | (exfalso; simp at hg; done) | (exfalso; simp_all; done))
end Go.Proofs.Ytchikadcicecoaa
