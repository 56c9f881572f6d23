/- SecantNumbers. Printed by gen_r2.py. -/
import Derived.Test.YtmcmbpoebhjecaaR1
namespace Go.Proofs.Ytmcmbpoebhjecaa
attribute [local irreducible] CW OW QW QOp Con thenP inBlockP
set_option maxRecDepth 10000
set_option linter.unusedSimpArgs false
set_option linter.unusedVariables false
/-- a list of n things, its numbers R, and a code -/
def listO (T : TypeId) (H0 : Hp) (b : Nat) (code : Int) (R : List Int) (n : Nat) (r : V) (H' : Hp) : Prop :=
  if code = 0 then ∃ (k : Nat) (sp : List Int), n ≤ k ∧ r = .tuple [.slice b 0 n k, .int 0] ∧ H' = H0 ++ [(b, .ints T (R ++ sp))]
  else r = .tuple [.nilsl, .int code] ∧ H' = H0
theorem listO_ok {T : TypeId} {H0 : Hp} {b : Nat} {code : Int} {R : List Int} {n k : Nat} {sp : List Int} (hc : code = 0) (hk : n ≤ k) : listO T H0 b code R n (.tuple [.slice b 0 n k, .int 0]) (H0 ++ [(b, .ints T (R ++ sp))]) := by
  unfold listO; rw [if_pos hc]; exact ⟨k, sp, hk, rfl, rfl⟩
theorem listO_ok0 {T : TypeId} {H0 : Hp} {b : Nat} {code : Int} {R : List Int} {n : Nat} (hc : code = 0) : listO T H0 b code R n (.tuple [.slice b 0 n n, .int 0]) (H0 ++ [(b, .ints T R)]) := by
  have := listO_ok (T := T) (H0 := H0) (b := b) (R := R) (sp := []) hc (Nat.le_refl n)
  rwa [List.append_nil] at this
theorem listO_no {T : TypeId} {H0 : Hp} {b : Nat} {code : Int} {R : List Int} {n : Nat} (hc : ¬ code = 0) : listO T H0 b code R n (.tuple [.nilsl, .int code]) H0 := by
  unfold listO; rw [if_neg hc]; exact ⟨rfl, rfl⟩
theorem listO_pos {T : TypeId} {H0 : Hp} {b : Nat} {code : Int} {R : List Int} {n : Nat} {r : V} {H' : Hp} (hc : code = 0) (h : listO T H0 b code R n r H') : ∃ (k : Nat) (sp : List Int), n ≤ k ∧ r = .tuple [.slice b 0 n k, .int 0] ∧ H' = H0 ++ [(b, .ints T (R ++ sp))] := by
  unfold listO at h; rwa [if_pos hc] at h
theorem listO_neg {T : TypeId} {H0 : Hp} {b : Nat} {code : Int} {R : List Int} {n : Nat} {r : V} {H' : Hp} (hc : ¬ code = 0) (h : listO T H0 b code R n r H') : r = .tuple [.nilsl, .int code] ∧ H' = H0 := by
  unfold listO at h; rwa [if_neg hc] at h
def secM (p : Int) (M : List Int) (n : Nat) : List Int := secV p (chunk M n)

theorem impl_SecantNumbers_con (p : Int) (L : List (List Int)) (sp : List Int) (k : Nat) (h3 : ∀ x ∈ L, x.length = 3) (hn9 : L.length ≤ 1000000000) : Con Try.prog [] 28 [.int p, .slice 0 0 L.length k] [(0, .ints 49 (L.flatten ++ sp))] (listO 2 [(0, .ints 49 (L.flatten ++ sp))] 1 (setC p L) (secV p L) (p + 2).toNat) := by
  by_cases hcd : setC p L = 0
  · skip
    refine conW tab_ok [(0, .int p), (1, .slice 0 0 L.length k)] 1 [0] [0] Try.func28 rfl rfl rfl rfl rfl rfl rfl rfl rfl ?_
    refine cR ?_
    iterate 2 refine oA rfl rfl ?_
    refine oN ?_
    refine CW_seq ?_
    refine cR ?_
    iterate 2 refine oM rfl rfl ?_
    refine oQ (Q_call (setCode_con p L sp k h3 hn9) [] rfl rfl (Fits.mk' (vHc rfl vHn) rfl rfl (by simp)) rfl rfl) rfl rfl ?_
    refine oA rfl rfl ?_
    refine oN ?_
    refine cR ?_
    refine oM rfl rfl ?_
    refine oQ (Q_bin rfl rfl rfl) rfl rfl ?_
    refine oN ?_
    first | refine cT rfl ?_ | refine cF rfl ?_ | refine CW_cond rfl (fun hc => ?_) (fun hc => ?_)
    all_goals try simp only [s1, s2, s3, s4, s5, s6, s7, s8, s9, s10, s11, s12] at hc
    all_goals try (exfalso; first | exact absurd hcd hc | exact absurd hc hcd; done)
    all_goals first
      | (
       refine CW_skip ?_)
      | (
       refine cR ?_
       refine oM rfl rfl ?_
       iterate 2 refine oA rfl rfl ?_
       refine oN ?_
       refine CW_ret ?_)
    all_goals first
      | with_reducible refine tR ?_
      | with_reducible refine tE ?_
      | (
       with_reducible refine tN ?_
       refine cR ?_
       iterate 2 refine oM rfl rfl ?_
       refine oCall (secants_con p L sp k h3 hcd) [] 2 rfl rfl (Fits.mk' (vHc rfl vHn) rfl rfl (by simp)) rfl rfl ?_
       rintro r H1 ⟨rfl, rfl⟩
       refine ⟨.slice 2 0 (p + 2).toNat (p + 2).toNat, [(0, .ints 49 (L.flatten ++ sp)), (2, .ints 2 (secV p L))], rfl, rfl, rfl, ?_⟩
       iterate 2 refine oA rfl rfl ?_
       refine oN ?_
       refine CW_ret ?_)
    all_goals (
     first | (exfalso; first | exact hc hcd | exact hcd hc; done) | exact exitH (r0 := .tuple [.slice 1 0 (p + 2).toNat (p + 2).toNat, .int 0]) (H0 := [(0, .ints 49 (L.flatten ++ sp)), (1, .ints 2 (secV p L))]) (.inr rfl) [(1, 2)] 2 (.cons (.tmp rfl rfl) (.cons (.tmp rfl rfl) .nil)) rfl rfl rfl (vHc rfl (vHc rfl vHn)) rfl rfl (listO_ok0 hcd))
  · skip
    refine conW tab_ok [(0, .int p), (1, .slice 0 0 L.length k)] 1 [0] [0] Try.func28 rfl rfl rfl rfl rfl rfl rfl rfl rfl ?_
    refine cR ?_
    iterate 2 refine oA rfl rfl ?_
    refine oN ?_
    refine CW_seq ?_
    refine cR ?_
    iterate 2 refine oM rfl rfl ?_
    refine oQ (Q_call (setCode_con p L sp k h3 hn9) [] rfl rfl (Fits.mk' (vHc rfl vHn) rfl rfl (by simp)) rfl rfl) rfl rfl ?_
    refine oA rfl rfl ?_
    refine oN ?_
    refine cR ?_
    refine oM rfl rfl ?_
    refine oQ (Q_bin rfl rfl rfl) rfl rfl ?_
    refine oN ?_
    first | refine cT rfl ?_ | refine cF rfl ?_ | refine CW_cond rfl (fun hc => ?_) (fun hc => ?_)
    all_goals try simp only [s1, s2, s3, s4, s5, s6, s7, s8, s9, s10, s11, s12] at hc
    all_goals try (exfalso; first | exact absurd hcd hc | exact absurd hc hcd; done)
    all_goals first
      | (
       refine CW_skip ?_)
      | (
       refine cR ?_
       refine oM rfl rfl ?_
       iterate 2 refine oA rfl rfl ?_
       refine oN ?_
       refine CW_ret ?_)
    all_goals first
      | with_reducible refine tR ?_
      | with_reducible refine tE ?_
      | (
       with_reducible refine tN ?_
       refine cR ?_
       iterate 2 refine oM rfl rfl ?_
       (exfalso; first | exact hc hcd | exact hcd hc)
       iterate 2 refine oA rfl rfl ?_
       refine oN ?_
       refine CW_ret ?_)
    all_goals (
     first | (exfalso; first | exact hc hcd | exact hcd hc; done) | exact exitH (r0 := .tuple [.nilsl, .int (setC p L)]) (H0 := [(0, .ints 49 (L.flatten ++ sp))]) (.inr rfl) [] 1 (.cons (.tmp rfl rfl) (.cons (.tmp rfl rfl) .nil)) rfl rfl rfl (vHc rfl vHn) rfl rfl (listO_no hcd))
theorem impl_SecantNumbers_nil (p : Int) : Con Try.prog [] 28 [.int p, .nilsl] [] (listO 2 [] 0 (setC p ([] : List (List Int))) (secV p ([] : List (List Int))) (p + 2).toNat) := by
  by_cases hcd : setC p ([] : List (List Int)) = 0
  · skip
    refine conW tab_ok [(0, .int p), (1, .nilsl)] 0 [] [] Try.func28 rfl rfl rfl rfl rfl rfl rfl rfl rfl ?_
    refine cR ?_
    iterate 2 refine oA rfl rfl ?_
    refine oN ?_
    refine CW_seq ?_
    refine cR ?_
    iterate 2 refine oM rfl rfl ?_
    refine oQ (Q_call0 (setCode_nil p ) rfl rfl rfl) rfl rfl ?_
    refine oA rfl rfl ?_
    refine oN ?_
    refine cR ?_
    refine oM rfl rfl ?_
    refine oQ (Q_bin rfl rfl rfl) rfl rfl ?_
    refine oN ?_
    first | refine cT rfl ?_ | refine cF rfl ?_ | refine CW_cond rfl (fun hc => ?_) (fun hc => ?_)
    all_goals try simp only [s1, s2, s3, s4, s5, s6, s7, s8, s9, s10, s11, s12] at hc
    all_goals try (exfalso; first | exact absurd hcd hc | exact absurd hc hcd; done)
    all_goals first
      | (
       refine CW_skip ?_)
      | (
       refine cR ?_
       refine oM rfl rfl ?_
       iterate 2 refine oA rfl rfl ?_
       refine oN ?_
       refine CW_ret ?_)
    all_goals first
      | with_reducible refine tR ?_
      | with_reducible refine tE ?_
      | (
       with_reducible refine tN ?_
       refine cR ?_
       iterate 2 refine oM rfl rfl ?_
       refine oCall (secants_nil p (setC_zero hcd).1) [] 1 rfl rfl (Fits.mk' vHn rfl rfl (by simp)) rfl rfl ?_
       rintro r H1 ⟨rfl, rfl⟩
       refine ⟨.slice 0 0 (p + 2).toNat (p + 2).toNat, [(0, .ints 2 (secV p ([] : List (List Int))))], rfl, rfl, rfl, ?_⟩
       iterate 2 refine oA rfl rfl ?_
       refine oN ?_
       refine CW_ret ?_)
    all_goals (
     first | (exfalso; first | exact hc hcd | exact hcd hc; done) | exact exitH (r0 := .tuple [.slice 0 0 (p + 2).toNat (p + 2).toNat, .int 0]) (H0 := [(0, .ints 2 (secV p ([] : List (List Int))))]) (.inr rfl) [(0, 0)] 1 (.cons (.tmp rfl rfl) (.cons (.tmp rfl rfl) .nil)) rfl rfl rfl (vHc rfl vHn) rfl rfl (listO_ok0 hcd))
  · skip
    refine conW tab_ok [(0, .int p), (1, .nilsl)] 0 [] [] Try.func28 rfl rfl rfl rfl rfl rfl rfl rfl rfl ?_
    refine cR ?_
    iterate 2 refine oA rfl rfl ?_
    refine oN ?_
    refine CW_seq ?_
    refine cR ?_
    iterate 2 refine oM rfl rfl ?_
    refine oQ (Q_call0 (setCode_nil p ) rfl rfl rfl) rfl rfl ?_
    refine oA rfl rfl ?_
    refine oN ?_
    refine cR ?_
    refine oM rfl rfl ?_
    refine oQ (Q_bin rfl rfl rfl) rfl rfl ?_
    refine oN ?_
    first | refine cT rfl ?_ | refine cF rfl ?_ | refine CW_cond rfl (fun hc => ?_) (fun hc => ?_)
    all_goals try simp only [s1, s2, s3, s4, s5, s6, s7, s8, s9, s10, s11, s12] at hc
    all_goals try (exfalso; first | exact absurd hcd hc | exact absurd hc hcd; done)
    all_goals first
      | (
       refine CW_skip ?_)
      | (
       refine cR ?_
       refine oM rfl rfl ?_
       iterate 2 refine oA rfl rfl ?_
       refine oN ?_
       refine CW_ret ?_)
    all_goals first
      | with_reducible refine tR ?_
      | with_reducible refine tE ?_
      | (
       with_reducible refine tN ?_
       refine cR ?_
       iterate 2 refine oM rfl rfl ?_
       (exfalso; first | exact hc hcd | exact hcd hc)
       iterate 2 refine oA rfl rfl ?_
       refine oN ?_
       refine CW_ret ?_)
    all_goals (
     first | (exfalso; first | exact hc hcd | exact hcd hc; done) | exact exitH (r0 := .tuple [.nilsl, .int (setC p ([] : List (List Int)))]) (H0 := []) (.inr rfl) [] 0 (.cons (.tmp rfl rfl) (.cons (.tmp rfl rfl) .nil)) rfl rfl rfl vHn rfl rfl (listO_no hcd))
theorem spec_SecantNumbers_con (p : Int) (L : List (List Int)) (sp : List Int) (k : Nat) (h3 : ∀ x ∈ L, x.length = 3) (hn9 : L.length ≤ 1000000000) : Con Try.prog [] 27 [.int p, .slice 0 0 L.length k] [(0, .ints 49 (L.flatten ++ sp))] (listO 2 [(0, .ints 49 (L.flatten ++ sp))] 1 (setC p L) (secV p L) (p + 2).toNat) := by
  by_cases hcd : setC p L = 0
  · skip
    refine conW tab_ok [(0, .int p), (1, .slice 0 0 L.length k)] 1 [0] [0] Try.func27 rfl rfl rfl rfl rfl rfl rfl rfl rfl ?_
    refine cR ?_
    iterate 2 refine oA rfl rfl ?_
    refine oN ?_
    refine CW_seq ?_
    refine cR ?_
    iterate 2 refine oM rfl rfl ?_
    refine oQ (Q_call (l07Code_con p L sp k h3 hn9) [] rfl rfl (Fits.mk' (vHc rfl vHn) rfl rfl (by simp)) rfl rfl) rfl rfl ?_
    refine oA rfl rfl ?_
    refine oN ?_
    refine cR ?_
    refine oM rfl rfl ?_
    refine oQ (Q_bin rfl rfl rfl) rfl rfl ?_
    refine oN ?_
    first | refine cT rfl ?_ | refine cF rfl ?_ | refine CW_cond rfl (fun hc => ?_) (fun hc => ?_)
    all_goals try simp only [s1, s2, s3, s4, s5, s6, s7, s8, s9, s10, s11, s12] at hc
    all_goals try (exfalso; first | exact absurd hcd hc | exact absurd hc hcd; done)
    all_goals first
      | (
       refine CW_skip ?_)
      | (
       refine cR ?_
       refine oM rfl rfl ?_
       iterate 2 refine oA rfl rfl ?_
       refine oN ?_
       refine CW_ret ?_)
    all_goals first
      | with_reducible refine tR ?_
      | with_reducible refine tE ?_
      | (
       with_reducible refine tN ?_
       refine cR ?_
       iterate 2 refine oM rfl rfl ?_
       refine oCall (l07Numbers_con p L sp k h3 hcd) [] 2 rfl rfl (Fits.mk' (vHc rfl vHn) rfl rfl (by simp)) rfl rfl ?_
       rintro r H1 ⟨rfl, rfl⟩
       refine ⟨.slice 2 0 (p + 2).toNat (p + 2).toNat, [(0, .ints 49 (L.flatten ++ sp)), (2, .ints 2 (secV p L))], rfl, rfl, rfl, ?_⟩
       iterate 2 refine oA rfl rfl ?_
       refine oN ?_
       refine CW_ret ?_)
    all_goals (
     first | (exfalso; first | exact hc hcd | exact hcd hc; done) | exact exitH (r0 := .tuple [.slice 1 0 (p + 2).toNat (p + 2).toNat, .int 0]) (H0 := [(0, .ints 49 (L.flatten ++ sp)), (1, .ints 2 (secV p L))]) (.inr rfl) [(1, 2)] 2 (.cons (.tmp rfl rfl) (.cons (.tmp rfl rfl) .nil)) rfl rfl rfl (vHc rfl (vHc rfl vHn)) rfl rfl (listO_ok0 hcd))
  · skip
    refine conW tab_ok [(0, .int p), (1, .slice 0 0 L.length k)] 1 [0] [0] Try.func27 rfl rfl rfl rfl rfl rfl rfl rfl rfl ?_
    refine cR ?_
    iterate 2 refine oA rfl rfl ?_
    refine oN ?_
    refine CW_seq ?_
    refine cR ?_
    iterate 2 refine oM rfl rfl ?_
    refine oQ (Q_call (l07Code_con p L sp k h3 hn9) [] rfl rfl (Fits.mk' (vHc rfl vHn) rfl rfl (by simp)) rfl rfl) rfl rfl ?_
    refine oA rfl rfl ?_
    refine oN ?_
    refine cR ?_
    refine oM rfl rfl ?_
    refine oQ (Q_bin rfl rfl rfl) rfl rfl ?_
    refine oN ?_
    first | refine cT rfl ?_ | refine cF rfl ?_ | refine CW_cond rfl (fun hc => ?_) (fun hc => ?_)
    all_goals try simp only [s1, s2, s3, s4, s5, s6, s7, s8, s9, s10, s11, s12] at hc
    all_goals try (exfalso; first | exact absurd hcd hc | exact absurd hc hcd; done)
    all_goals first
      | (
       refine CW_skip ?_)
      | (
       refine cR ?_
       refine oM rfl rfl ?_
       iterate 2 refine oA rfl rfl ?_
       refine oN ?_
       refine CW_ret ?_)
    all_goals first
      | with_reducible refine tR ?_
      | with_reducible refine tE ?_
      | (
       with_reducible refine tN ?_
       refine cR ?_
       iterate 2 refine oM rfl rfl ?_
       (exfalso; first | exact hc hcd | exact hcd hc)
       iterate 2 refine oA rfl rfl ?_
       refine oN ?_
       refine CW_ret ?_)
    all_goals (
     first | (exfalso; first | exact hc hcd | exact hcd hc; done) | exact exitH (r0 := .tuple [.nilsl, .int (setC p L)]) (H0 := [(0, .ints 49 (L.flatten ++ sp))]) (.inr rfl) [] 1 (.cons (.tmp rfl rfl) (.cons (.tmp rfl rfl) .nil)) rfl rfl rfl (vHc rfl vHn) rfl rfl (listO_no hcd))
theorem spec_SecantNumbers_M (p : Int) (M : List Int) (n k : Nat) (hM : n * 3 ≤ M.length) (hn : n ≤ 1000000000) : Con Try.prog [] 27 [.int p, .slice 0 0 n k] [(0, .ints 49 M)] (listO 2 [(0, .ints 49 M)] 1 (setM p M n) (secM p M n) (p + 2).toNat) := by
  have e := chunk_split hM
  have h := spec_SecantNumbers_con p (chunk M n) (M.drop (n * 3)) k (chunk_three hM) (by rw [chunk_length]; exact hn)
  rw [chunk_length, ← e] at h
  exact h
theorem impl_SecantNumbers_M (p : Int) (M : List Int) (n k : Nat) (hM : n * 3 ≤ M.length) (hn : n ≤ 1000000000) : Con Try.prog [] 28 [.int p, .slice 0 0 n k] [(0, .ints 49 M)] (listO 2 [(0, .ints 49 M)] 1 (setM p M n) (secM p M n) (p + 2).toNat) := by
  have e := chunk_split hM
  have h := impl_SecantNumbers_con p (chunk M n) (M.drop (n * 3)) k (chunk_three hM) (by rw [chunk_length]; exact hn)
  rw [chunk_length, ← e] at h
  exact h
end Go.Proofs.Ytmcmbpoebhjecaa
