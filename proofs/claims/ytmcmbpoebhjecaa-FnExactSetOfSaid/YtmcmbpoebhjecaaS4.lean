/- Completions of arcs, both sides. Printed by gen_s4.py. -/
import Derived.Test.YtmcmbpoebhjecaaS1
import Derived.Test.YtmcmbpoebhjecaaS2
import Derived.Test.YtmcmbpoebhjecaaS3
namespace Go.Proofs.Ytmcmbpoebhjecaa
set_option maxRecDepth 10000
set_option linter.unusedSimpArgs false
set_option linter.unusedVariables false
def comR (p : Int) (L : List (List Int)) : List (List Int) := srtV (comA p L)
theorem comA_next {p : Int} {L : List (List Int)} (h : Ok p L) (hp : primeB p = true) (hf : 0 < (freeV p L).length) : (freeV p L).getD 0 [] ∈ freeV p L ∧ comA p L = comA p (L ++ [(freeV p L).getD 0 []]) := by
  cases e : freeV p L with
  | nil => rw [e] at hf; simp at hf
  | cons a t => exact ⟨by simp, comA_step h hp e⟩
theorem comA_stop {p : Int} {L : List (List Int)} (hf : (freeV p L).length = 0) : comA p L = L := comA_end (List.length_eq_zero_iff.1 hf)
theorem free_nil {p : Int} (hp : primeB p = true) : freeV p [] = allPts p := by
  unfold freeV
  rw [List.filter_eq_self]
  intro a _
  rfl
theorem ok_nil (p : Int) : Ok p [] := ⟨(fun x hx => by cases hx), List.nodup_nil⟩
theorem comR_three {p : Int} {L : List (List Int)} (h : Ok p L) : T3 (comR p L) := srt_three (comA_ok h).three
def comM (p : Int) (M : List Int) (n : Nat) : List (List Int) := comR p (chunk M n)
theorem allPts_count {p : Int} (hp : primeB p = true) : ((allPts p).length : Int) = p * p + p + 1 := by
  obtain ⟨n, rfl, hn⟩ := of_prime hp
  rw [← ptsTo_all rfl, ptsTo_length]
  simp only [Int.natCast_add, Int.natCast_mul]
  omega
theorem ok_one {p : Int} {a : List Int} (h : a ∈ allPts p) : Ok p [a] := ⟨(fun x hx => by rw [List.mem_singleton] at hx; subst hx; exact h), by simp⟩
theorem pl_one (a : List Int) : PL [a] := by simp
def greC (p k : Int) : Int := if primeB p = true ∧ 0 ≤ k ∧ k ≤ p * p + p then 0 else 2
theorem greC_zero {p k : Int} (h : greC p k = 0) : primeB p = true ∧ 0 ≤ k ∧ k ≤ p * p + p := by
  unfold greC at h
  split at h
  · assumption
  · cases h
def greV (p k : Int) : List (List Int) := comR p [(allPts p).getD k.toNat []]
attribute [local irreducible] CW OW QW QOp Con thenP inBlockP

theorem sorted_con (L : List (List Int)) (sp : List Int) (k : Nat) (h3 : ∀ x ∈ L, x.length = 3) (hn9 : L.length ≤ 1000000) : Con Try.prog [] 79 [.slice 0 0 L.length k] [(0, .ints 49 (L.flatten ++ sp))] (ownR 3 49 [(0, .ints 49 (L.flatten ++ sp))] 1 (srtV L)) := by
  have hf3 := flat3 h3
  refine conW tab_ok [(0, .slice 0 0 L.length k)] 1 [0] [0] Try.func79 rfl rfl rfl rfl rfl rfl rfl rfl rfl ?_
  refine cR ?_
  refine oA rfl rfl ?_
  refine oN ?_
  refine cR ?_
  refine oM rfl rfl ?_
  refine oCall (cloneS_con L (L.flatten ++ sp) 0 k h3 (by rw [List.length_append, hf3]; omega) (by rw [List.drop_zero, ← hf3, List.take_left]) (by omega)) [] 2 rfl rfl (Fits.mk' (vHc rfl vHn) rfl rfl (by simp)) rfl rfl ?_
  rintro r H1 ⟨k0, sp0, hk0, hsp0, rfl, rfl⟩
  refine ⟨.slice 2 0 L.length k0, [(0, .ints 49 (L.flatten ++ sp)), (2, .ints 49 (L.flatten ++ sp0))], rfl, rfl, rfl, ?_⟩
  refine oA rfl rfl ?_
  refine oN ?_
  refine cR ?_
  refine oM rfl rfl ?_
  refine oCall (sortFunc_con 49 L sp0 k0 h3 hn9) [(0, 2)] 0 rfl rfl (Fits.mk' (vHc rfl vHn) rfl rfl (by simp)) rfl rfl ?_
  rintro r H1 ⟨S, hperm, hsort, rfl, rfl⟩
  refine ⟨.tuple [], [(2, .ints 49 (S.flatten ++ sp0))], rfl, rfl, rfl, ?_⟩
  have hS3 : T3 S := fun x hx => h3 x (hperm.mem_iff.1 hx)
  have hSl : S.length = L.length := hperm.length_eq
  have hdd := ddL_srt h3 hperm hsort
  have hle := srt_len L
  rw [← hSl]
  refine oN ?_
  refine cR ?_
  refine oM rfl rfl ?_
  refine oCall (compact_con S sp0 k0 hS3 (by omega) (by omega)) [(0, 2)] 0 rfl rfl (Fits.mk' (vHc rfl vHn) rfl rfl (by simp)) rfl rfl ?_
  rintro r H1 ⟨z, hz, rfl, rfl⟩
  rw [hdd] at hz ⊢
  refine ⟨.slice 2 0 (srtV L).length k0, [(2, .ints 49 ((srtV L).flatten ++ (z ++ sp0)))], rfl, rfl, rfl, ?_⟩
  refine oA rfl rfl ?_
  refine oN ?_
  refine CW_ret ?_
  all_goals (
   exact exitH (r0 := .slice 1 0 (srtV L).length k0) (H0 := [(0, .ints 49 (L.flatten ++ sp)), (1, .ints 49 ((srtV L).flatten ++ (z ++ sp0)))]) (.inr rfl) [(1, 2)] 2 (.cons (.tmp rfl rfl) .nil) rfl rfl rfl (vHc rfl (vHc rfl vHn)) rfl rfl ⟨k0, z ++ sp0, by omega, by rw [List.length_append, hz]; omega, rfl, rfl⟩)
theorem clone_nil  : ConQ Try.prog [] 86 [.nilsl] [] (.nilsl) := by
  refine conW tab_ok [(0, .nilsl)] 0 [] [] Try.func86 rfl rfl rfl rfl rfl rfl rfl rfl rfl ?_
  refine cR ?_
  refine oA rfl rfl ?_
  refine oN ?_
  refine CW_seq ?_
  refine cR ?_
  refine oM rfl rfl ?_
  refine oQ (Q_eqnilT rfl rfl rfl rfl) rfl rfl ?_
  refine oN ?_
  first | refine cT rfl ?_ | refine cF rfl ?_ | refine CW_cond rfl (fun hc => ?_) (fun hc => ?_)
  all_goals try simp only [s1, s2, s3, s4, s5, s6, s7, s8, s9, s10, s11, s12] at hc
  all_goals try (exfalso; first | exact absurd trivial hc | (simp at hc; done); done)
  all_goals first
    | (
     refine CW_skip ?_)
    | (
     refine cR ?_
     refine oA rfl rfl ?_
     refine oN ?_
     refine CW_ret ?_)
  all_goals first
    | with_reducible refine tR ?_
    | with_reducible refine tE ?_
    | (
     with_reducible refine tN ?_
     refine cR ?_
     refine oBsl rfl rfl rfl rfl (.inr ⟨rfl, rfl, by decide⟩) rfl rfl rfl rfl rfl rfl ?_
     refine oM rfl rfl ?_
     (exfalso; simp_all; done)
     refine oA rfl rfl ?_
     refine oN ?_
     refine CW_ret ?_)
  all_goals (
   ((refine exitQ (.inr rfl) 0 (.cons (.tmp rfl rfl) .nil) ?_ rfl vHn rfl rfl); rfl))
theorem completion_con (p : Int) (L : List (List Int)) (M : List Int) (off k : Nat) (hb : off + L.length * 3 ≤ M.length) (he : (M.drop off).take (L.length * 3) = L.flatten) (hp : primeB p = true) (hO : Ok p L) : Con Try.prog [] 56 [.int p, .slice 0 off L.length k] [(0, .ints 49 M)] (ownR 3 49 [(0, .ints 49 M)] 1 (comR p L)) := by
  have h3 := hO.three
  have hlen := hO.len hp
  refine conW tab_ok [(0, .int p), (1, .slice 0 off L.length k)] 1 [0] [0] Try.func56 rfl rfl rfl rfl rfl rfl rfl rfl rfl ?_
  refine cR ?_
  refine oA rfl rfl ?_
  refine oN ?_
  refine cR ?_
  refine oM rfl rfl ?_
  refine oCall (cloneS_con L M off k h3 hb he (by omega)) [] 2 rfl rfl (Fits.mk' (vHc rfl vHn) rfl rfl (by simp)) rfl rfl ?_
  rintro r H1 ⟨k0, sp0, hk0, hsp0, rfl, rfl⟩
  refine ⟨.slice 2 0 L.length k0, [(0, .ints 49 M), (2, .ints 49 (L.flatten ++ sp0))], rfl, rfl, rfl, ?_⟩
  refine oA rfl rfl ?_
  refine oN ?_
  refine CW_block ?_
  refine CW_loop (ι := List (List Int) × Nat × List Int) (fun x => Ok p x.1 ∧ comA p x.1 = comA p L ∧ x.1.length ≤ x.2.1 ∧ x.2.1 * 3 ≤ x.1.length * 3 + x.2.2.length) (fun x => ⟨[(0, .int p), (5, .slice 1 0 x.1.length x.2.1)], [(0, .ints 49 M), (1, .ints 49 (x.1.flatten ++ x.2.2))], 2⟩) (fun x => 1000 - x.1.length) (L, k0, sp0) ?_ ?_ ?_
  · exact ⟨hO, rfl, hk0, hsp0⟩
  · refine View.mk' [(1, 2)] rfl rfl rfl ?_ ?_
    repeat' first | exact vFn | refine vFc rfl ?_ | exact vHn | refine vHc rfl ?_ | refine vFc (congrArg (fun z => some (V.int z)) ?_) ?_ | refine vHc (congrArg (fun z => some (Blk.ints _ z)) ?_) ?_ | refine vFc (congrArg (fun z => some (V.bool z)) ?_) ?_ | refine vFs rfl rfl ?_ ?_
  rintro ⟨Lc, kc, sc⟩ ⟨hOc, hcc, hkc, hsc⟩
  dsimp only at hOc hcc hkc hsc ⊢
  have h3c := hOc.three
  have hf3c := flat3 h3c
  have hlenc := hOc.len hp
  have hffc := flat3 (fun x (hx : x ∈ freeV p Lc) => allPts_three (free_new hx).1)
  have hnxc := fun h => comA_next hOc hp h
  have hac := fun h => allPts_three (free_new (comA_next hOc hp h).1).1
  refine CW_block ?_
  refine cR ?_
  iterate 2 refine oM rfl rfl ?_
  ((refine oCall (freePoints_con p Lc sc kc h3c hp hOc.v hOc.nd (by omega) hkc) [(0, 1)] 2 rfl rfl (Fits.mk' (vHc rfl vHn) rfl rfl (by simp)) rfl rfl ?_); rintro r H1 ⟨kf, sf, hkf, hsf, rfl, rfl⟩; refine ⟨.slice 3 0 (freeV p Lc).length kf, [(1, .ints 49 (Lc.flatten ++ sc)), (3, .ints 49 ((freeV p Lc).flatten ++ sf))], rfl, rfl, rfl, ?_⟩)
  refine oA rfl rfl ?_
  refine oN ?_
  refine CW_seq ?_
  refine cR ?_
  refine oM rfl rfl ?_
  first | refine oQ (Q_len rfl rfl rfl rfl) rfl rfl ?_ | refine oQ (Q_len0 rfl rfl rfl rfl) rfl rfl ?_
  refine oQ (Q_bin rfl rfl rfl) rfl rfl ?_
  refine oN ?_
  first | refine cT rfl ?_ | refine cF rfl ?_ | refine CW_cond rfl (fun hc => ?_) (fun hc => ?_)
  all_goals try simp only [s1, s2, s3, s4, s5, s6, s7, s8, s9, s10, s11, s12] at hc
  all_goals first
    | (
     refine CW_skip ?_)
    | (
     refine cR ?_
     refine oM rfl rfl ?_
     ((refine oCall (sorted_con Lc sc kc h3c (by omega)) [(0, 1)] 2 rfl rfl (Fits.mk' (vHc rfl vHn) rfl rfl (by simp)) rfl rfl ?_); rintro r H1 ⟨ks, ss, hks, hss, rfl, rfl⟩; refine ⟨.slice 5 0 (srtV Lc).length ks, [(1, .ints 49 (Lc.flatten ++ sc)), (5, .ints 49 ((srtV Lc).flatten ++ ss))], rfl, rfl, rfl, ?_⟩)
     refine oA rfl rfl ?_
     refine oN ?_
     refine CW_ret ?_)
  all_goals first
    | with_reducible refine tR ?_
    | with_reducible refine tE ?_
    | (
     with_reducible refine tN ?_
     refine CW_region ?_
     iterate 2 refine oM rfl rfl ?_
     (have hpos : 0 < (freeV p Lc).length := by omega); (have hnxc := hnxc hpos); (have hac := hac hpos); refine oQ (Q_ixs0z 3 (j := 0) rfl rfl rfl rfl rfl rfl (by omega)) rfl rfl ?_
     refine oQ (Q_lda (n := 3) rfl rfl rfl rfl rfl (by rw [List.length_append, hffc]; omega)) rfl rfl ?_; rw [flat_get (fun x (hx : x ∈ freeV p Lc) => allPts_three (free_new hx).1) hpos]
     refine oBsl1 hac rfl rfl rfl rfl rfl rfl rfl rfl rfl rfl ?_
     refine oApp (sz := 3) (by_ := 24) (xl := (freeV p Lc).getD 0 []) rfl rfl rfl rfl rfl rfl ⟨by decide, rfl, .inr rfl⟩ rfl rfl rfl rfl rfl rfl hf3c (by rw [hac]) (by omega) (by omega) (by omega) (by omega) rfl rfl (fun k2 sp2 h1 h2 => ?_)
     refine oA rfl rfl ?_
     refine OW_nil ?_)
  all_goals first | with_reducible refine bN ?_ | with_reducible refine bE ?_ | with_reducible refine bR ?_ | refine bX rfl ?_
  all_goals first
    | with_reducible refine tR ?_
    | with_reducible refine tE ?_
    | (
     with_reducible refine tN ?_
     refine ⟨(Lc ++ [(freeV p Lc).getD 0 []], k2, sp2), ?_, ?_, View.mk' [(1, 5)] rfl rfl rfl ?_ ?_⟩
     · exact ⟨hOc.snoc hnxc.1, hnxc.2.symm.trans hcc, by simpa using h1, by simpa using h2⟩
     · (dsimp only; rw [List.length_append, List.length_singleton]; omega)
     all_goals (repeat' first | exact vFn | refine vFc rfl ?_ | exact vHn | refine vHc rfl ?_ | refine vFc (congrArg (fun z => some (V.int z)) ?_) ?_ | refine vHc (congrArg (fun z => some (Blk.ints _ z)) ?_) ?_ | refine vFc (congrArg (fun z => some (V.bool z)) ?_) ?_ | refine vFs rfl rfl ?_ ?_)
     all_goals dsimp only
     all_goals first | (rw [List.length_append, List.length_singleton]; done) | (simp; done))
  all_goals first | with_reducible refine bN ?_ | with_reducible refine bE ?_ | with_reducible refine bR ?_ | refine bX rfl ?_
  all_goals (
   have hR : comR p L = srtV Lc := by rw [comR, ← hcc, comA_stop (by omega)]
   rw [hR]
   exact exitH (r0 := .slice 1 0 (srtV Lc).length ks) (H0 := [(0, .ints 49 M), (1, .ints 49 ((srtV Lc).flatten ++ ss))]) (.inr rfl) [(1, 5)] 2 (.cons (.tmp rfl rfl) .nil) rfl rfl rfl (vHc rfl (vHc rfl vHn)) rfl rfl ⟨ks, ss, hks, hss, rfl, rfl⟩)
theorem completion_nil (p : Int) (hp : primeB p = true) : Con Try.prog [] 56 [.int p, .nilsl] [] (ownR 3 49 [] 0 (comR p [])) := by
  have hal := allPts_len hp
  have hf0 := free_nil hp
  have hn0 := comA_next (ok_nil p) hp (by rw [hf0]; omega)
  have ha0 := allPts_three (free_new hn0.1).1
  have hO0 := (ok_nil p).snoc hn0.1
  have hff0 := flat3 (fun x (hx : x ∈ freeV p []) => allPts_three (free_new hx).1)
  have hl0 : 0 < (freeV p []).length := by rw [hf0]; omega
  refine conW tab_ok [(0, .int p), (1, .nilsl)] 0 [] [] Try.func56 rfl rfl rfl rfl rfl rfl rfl rfl rfl ?_
  refine cR ?_
  refine oA rfl rfl ?_
  refine oN ?_
  refine cR ?_
  refine oM rfl rfl ?_
  refine oQ (Q_call0 (clone_nil) rfl rfl rfl) rfl rfl ?_
  refine oA rfl rfl ?_
  refine oN ?_
  refine CW_block ?_
  refine CW_loop1 (ι := List (List Int) × Nat × List Int) (fun x => Ok p x.1 ∧ comA p x.1 = comA p [] ∧ x.1.length ≤ x.2.1 ∧ x.2.1 * 3 ≤ x.1.length * 3 + x.2.2.length) (fun x => ⟨[(0, .int p), (5, .slice 0 0 x.1.length x.2.1)], [(0, .ints 49 (x.1.flatten ++ x.2.2))], 1⟩) (fun x => 1000 - x.1.length) 1000 ⟨[(0, .int p), (5, .nilsl)], [], 0⟩ ?_ ?_ ?_
  · (
   refine View.mk' [] rfl rfl rfl ?_ ?_
   repeat' first | exact vFn | refine vFc rfl ?_ | exact vHn | refine vHc rfl ?_ | refine vFc (congrArg (fun z => some (V.int z)) ?_) ?_ | refine vHc (congrArg (fun z => some (Blk.ints _ z)) ?_) ?_ | refine vFc (congrArg (fun z => some (V.bool z)) ?_) ?_ | refine vFs rfl rfl ?_ ?_)
  all_goals first
    | (
     rintro ⟨Lc, kc, sc⟩ ⟨hOc, hcc, hkc, hsc⟩
     dsimp only at hOc hcc hkc hsc ⊢
     have h3c := hOc.three
     have hf3c := flat3 h3c
     have hlenc := hOc.len hp
     have hffc := flat3 (fun x (hx : x ∈ freeV p Lc) => allPts_three (free_new hx).1)
     have hnxc := fun h => comA_next hOc hp h
     have hac := fun h => allPts_three (free_new (comA_next hOc hp h).1).1
     refine CW_block ?_
     refine cR ?_
     iterate 2 refine oM rfl rfl ?_
     first
       | ((refine oCall (freePoints_con p Lc sc kc h3c hp hOc.v hOc.nd (by omega) hkc) [(0, 0)] 2 rfl rfl (Fits.mk' (vHc rfl vHn) rfl rfl (by simp)) rfl rfl ?_); rintro r H1 ⟨kf, sf, hkf, hsf, rfl, rfl⟩; refine ⟨.slice 2 0 (freeV p Lc).length kf, [(0, .ints 49 (Lc.flatten ++ sc)), (2, .ints 49 ((freeV p Lc).flatten ++ sf))], rfl, rfl, rfl, ?_⟩)
       | ((refine oCall (freePoints_nil p hp) [] 2 rfl rfl (Fits.mk' vHn rfl rfl (by simp)) rfl rfl ?_); rintro r H1 ⟨kf, sf, hkf, hsf, rfl, rfl⟩; refine ⟨.slice 0 0 (freeV p []).length kf, [(0, .ints 49 ((freeV p []).flatten ++ sf))], rfl, rfl, rfl, ?_⟩)
     refine oA rfl rfl ?_
     refine oN ?_
     refine CW_seq ?_
     refine cR ?_
     refine oM rfl rfl ?_
     first | refine oQ (Q_len rfl rfl rfl rfl) rfl rfl ?_ | refine oQ (Q_len0 rfl rfl rfl rfl) rfl rfl ?_
     refine oQ (Q_bin rfl rfl rfl) rfl rfl ?_
     refine oN ?_
     first | refine cT rfl ?_ | refine cF rfl ?_ | refine CW_cond rfl (fun hc => ?_) (fun hc => ?_)
     all_goals try simp only [s1, s2, s3, s4, s5, s6, s7, s8, s9, s10, s11, s12] at hc
     all_goals try (exfalso; (omega); done)
     all_goals first
       | (
        refine CW_skip ?_)
       | (
        refine cR ?_
        refine oM rfl rfl ?_
        ((refine oCall (sorted_con Lc sc kc h3c (by omega)) [(0, 0)] 2 rfl rfl (Fits.mk' (vHc rfl vHn) rfl rfl (by simp)) rfl rfl ?_); rintro r H1 ⟨ks, ss, hks, hss, rfl, rfl⟩; refine ⟨.slice 4 0 (srtV Lc).length ks, [(0, .ints 49 (Lc.flatten ++ sc)), (4, .ints 49 ((srtV Lc).flatten ++ ss))], rfl, rfl, rfl, ?_⟩)
        refine oA rfl rfl ?_
        refine oN ?_
        refine CW_ret ?_)
     all_goals first
       | with_reducible refine tR ?_
       | with_reducible refine tE ?_
       | (
        with_reducible refine tN ?_
        refine CW_region ?_
        iterate 2 refine oM rfl rfl ?_
        first
          | ((have hpos : 0 < (freeV p Lc).length := by omega); (have hnxc := hnxc hpos); (have hac := hac hpos); refine oQ (Q_ixs0z 3 (j := 0) rfl rfl rfl rfl rfl rfl (by omega)) rfl rfl ?_)
          | (refine oQ (Q_ixs0z 3 (j := 0) rfl rfl rfl rfl rfl rfl hl0) rfl rfl ?_)
        first
          | (refine oQ (Q_lda (n := 3) rfl rfl rfl rfl rfl (by rw [List.length_append, hffc]; omega)) rfl rfl ?_; rw [flat_get (fun x (hx : x ∈ freeV p Lc) => allPts_three (free_new hx).1) hpos])
          | (refine oQ (Q_lda (n := 3) rfl rfl rfl rfl rfl (by rw [List.length_append, hff0]; omega)) rfl rfl ?_; rw [flat_get (fun x (hx : x ∈ freeV p []) => allPts_three (free_new hx).1) hl0])
        first
          | refine oBsl1 hac rfl rfl rfl rfl rfl rfl rfl rfl rfl rfl ?_
          | refine oBsl1 ha0 rfl rfl rfl rfl rfl rfl rfl rfl rfl rfl ?_
        first
          | refine oApp (sz := 3) (by_ := 24) (xl := (freeV p Lc).getD 0 []) rfl rfl rfl rfl rfl rfl ⟨by decide, rfl, .inr rfl⟩ rfl rfl rfl rfl rfl rfl hf3c (by rw [hac]) (by omega) (by omega) (by omega) (by omega) rfl rfl (fun k2 sp2 h1 h2 => ?_)
          | (refine oAppNew (sz := 3) (by_ := 24) (k := 0) rfl rfl rfl rfl rfl rfl ⟨by decide, rfl, .inr rfl⟩ rfl rfl rfl rfl IsSl.nil (.inr ⟨rfl, rfl⟩) (by have := IsSl.mk (H := [(2, .ints 49 ((freeV p []).getD 0 [])), (0, .ints 49 ((freeV p []).flatten ++ sf))]) (sz := 3) (b := 2) (o := 0) (n := 1) (k := 1) rfl (by rw [ha0]; decide); rwa [List.drop_zero, List.take_of_length_le (by rw [ha0]; decide)] at this) (by decide) (by decide) (by decide) rfl rfl (fun k2 sp2 h1 h2 => ?_))
        refine oA rfl rfl ?_
        refine OW_nil ?_)
     all_goals first | with_reducible refine bN ?_ | with_reducible refine bE ?_ | with_reducible refine bR ?_ | refine bX rfl ?_
     all_goals first
       | with_reducible refine tR ?_
       | with_reducible refine tE ?_
       | (
        with_reducible refine tN ?_
        refine ⟨(Lc ++ [(freeV p Lc).getD 0 []], k2, sp2), ?_, ?_, View.mk' [(0, 4)] rfl rfl rfl ?_ ?_⟩
        · exact ⟨hOc.snoc hnxc.1, hnxc.2.symm.trans hcc, by simpa using h1, by simpa using h2⟩
        · (dsimp only; rw [List.length_append, List.length_singleton]; omega)
        all_goals (repeat' first | exact vFn | refine vFc rfl ?_ | exact vHn | refine vHc rfl ?_ | refine vFc (congrArg (fun z => some (V.int z)) ?_) ?_ | refine vHc (congrArg (fun z => some (Blk.ints _ z)) ?_) ?_ | refine vFc (congrArg (fun z => some (V.bool z)) ?_) ?_ | refine vFs rfl rfl ?_ ?_)
        all_goals dsimp only
        all_goals first | (rw [List.length_append, List.length_singleton]; done) | (simp; done)))
    | (
     refine CW_block ?_
     refine cR ?_
     iterate 2 refine oM rfl rfl ?_
     first
       | ((refine oCall (freePoints_con p Lc sc kc h3c hp hOc.v hOc.nd (by omega) hkc) [(0, 0)] 2 rfl rfl (Fits.mk' (vHc rfl vHn) rfl rfl (by simp)) rfl rfl ?_); rintro r H1 ⟨kf, sf, hkf, hsf, rfl, rfl⟩; refine ⟨.slice 2 0 (freeV p Lc).length kf, [(0, .ints 49 (Lc.flatten ++ sc)), (2, .ints 49 ((freeV p Lc).flatten ++ sf))], rfl, rfl, rfl, ?_⟩)
       | ((refine oCall (freePoints_nil p hp) [] 2 rfl rfl (Fits.mk' vHn rfl rfl (by simp)) rfl rfl ?_); rintro r H1 ⟨kf, sf, hkf, hsf, rfl, rfl⟩; refine ⟨.slice 0 0 (freeV p []).length kf, [(0, .ints 49 ((freeV p []).flatten ++ sf))], rfl, rfl, rfl, ?_⟩)
     refine oA rfl rfl ?_
     refine oN ?_
     refine CW_seq ?_
     refine cR ?_
     refine oM rfl rfl ?_
     first | refine oQ (Q_len rfl rfl rfl rfl) rfl rfl ?_ | refine oQ (Q_len0 rfl rfl rfl rfl) rfl rfl ?_
     refine oQ (Q_bin rfl rfl rfl) rfl rfl ?_
     refine oN ?_
     first | refine cT rfl ?_ | refine cF rfl ?_ | refine CW_cond rfl (fun hc => ?_) (fun hc => ?_)
     all_goals try simp only [s1, s2, s3, s4, s5, s6, s7, s8, s9, s10, s11, s12] at hc
     all_goals try (exfalso; (omega); done)
     all_goals first
       | (
        refine CW_skip ?_)
       | (
        refine cR ?_
        refine oM rfl rfl ?_
        ((refine oCall (sorted_con Lc sc kc h3c (by omega)) [(0, 0)] 2 rfl rfl (Fits.mk' (vHc rfl vHn) rfl rfl (by simp)) rfl rfl ?_); rintro r H1 ⟨ks, ss, hks, hss, rfl, rfl⟩; refine ⟨.slice 4 0 (srtV Lc).length ks, [(0, .ints 49 (Lc.flatten ++ sc)), (4, .ints 49 ((srtV Lc).flatten ++ ss))], rfl, rfl, rfl, ?_⟩)
        refine oA rfl rfl ?_
        refine oN ?_
        refine CW_ret ?_)
     all_goals first
       | with_reducible refine tR ?_
       | with_reducible refine tE ?_
       | (
        with_reducible refine tN ?_
        refine CW_region ?_
        iterate 2 refine oM rfl rfl ?_
        first
          | ((have hpos : 0 < (freeV p Lc).length := by omega); (have hnxc := hnxc hpos); (have hac := hac hpos); refine oQ (Q_ixs0z 3 (j := 0) rfl rfl rfl rfl rfl rfl (by omega)) rfl rfl ?_)
          | (refine oQ (Q_ixs0z 3 (j := 0) rfl rfl rfl rfl rfl rfl hl0) rfl rfl ?_)
        first
          | (refine oQ (Q_lda (n := 3) rfl rfl rfl rfl rfl (by rw [List.length_append, hffc]; omega)) rfl rfl ?_; rw [flat_get (fun x (hx : x ∈ freeV p Lc) => allPts_three (free_new hx).1) hpos])
          | (refine oQ (Q_lda (n := 3) rfl rfl rfl rfl rfl (by rw [List.length_append, hff0]; omega)) rfl rfl ?_; rw [flat_get (fun x (hx : x ∈ freeV p []) => allPts_three (free_new hx).1) hl0])
        first
          | refine oBsl1 hac rfl rfl rfl rfl rfl rfl rfl rfl rfl rfl ?_
          | refine oBsl1 ha0 rfl rfl rfl rfl rfl rfl rfl rfl rfl rfl ?_
        first
          | refine oApp (sz := 3) (by_ := 24) (xl := (freeV p Lc).getD 0 []) rfl rfl rfl rfl rfl rfl ⟨by decide, rfl, .inr rfl⟩ rfl rfl rfl rfl rfl rfl hf3c (by rw [hac]) (by omega) (by omega) (by omega) (by omega) rfl rfl (fun k2 sp2 h1 h2 => ?_)
          | (refine oAppNew (sz := 3) (by_ := 24) (k := 0) rfl rfl rfl rfl rfl rfl ⟨by decide, rfl, .inr rfl⟩ rfl rfl rfl rfl IsSl.nil (.inr ⟨rfl, rfl⟩) (by have := IsSl.mk (H := [(2, .ints 49 ((freeV p []).getD 0 [])), (0, .ints 49 ((freeV p []).flatten ++ sf))]) (sz := 3) (b := 2) (o := 0) (n := 1) (k := 1) rfl (by rw [ha0]; decide); rwa [List.drop_zero, List.take_of_length_le (by rw [ha0]; decide)] at this) (by decide) (by decide) (by decide) rfl rfl (fun k2 sp2 h1 h2 => ?_))
        refine oA rfl rfl ?_
        refine OW_nil ?_)
     all_goals first | with_reducible refine bN ?_ | with_reducible refine bE ?_ | with_reducible refine bR ?_ | refine bX rfl ?_
     all_goals first
       | with_reducible refine tR ?_
       | with_reducible refine tE ?_
       | (
        with_reducible refine tN ?_
        refine ⟨([] ++ [(freeV p []).getD 0 []], k2, sp2), ?_, ?_, View.mk' [(0, 3)] rfl rfl rfl ?_ ?_⟩
        · exact ⟨hO0, hn0.2.symm, h1, h2⟩
        · (show 1000 - ([] ++ [(freeV p []).getD 0 []]).length < 1000; rw [List.length_append, List.length_singleton]; simp)
        all_goals (repeat' first | exact vFn | refine vFc rfl ?_ | exact vHn | refine vHc rfl ?_ | refine vFc (congrArg (fun z => some (V.int z)) ?_) ?_ | refine vHc (congrArg (fun z => some (Blk.ints _ z)) ?_) ?_ | refine vFc (congrArg (fun z => some (V.bool z)) ?_) ?_ | refine vFs rfl rfl ?_ ?_)
        all_goals dsimp only
        all_goals first | (simp; done) | rfl))
  all_goals first | with_reducible refine bN ?_ | with_reducible refine bE ?_ | with_reducible refine bR ?_ | refine bX rfl ?_
  all_goals (
   have hR : comR p [] = srtV Lc := by rw [comR, ← hcc, comA_stop (by omega)]
   rw [hR]
   exact exitH (r0 := .slice 0 0 (srtV Lc).length ks) (H0 := [(0, .ints 49 ((srtV Lc).flatten ++ ss))]) (.inr rfl) [(0, 4)] 1 (.cons (.tmp rfl rfl) .nil) rfl rfl rfl (vHc rfl vHn) rfl rfl ⟨ks, ss, hks, hss, rfl, rfl⟩)
theorem impl_CompleteArc_con (p : Int) (L : List (List Int)) (sp : List Int) (k : Nat) (h3 : ∀ x ∈ L, x.length = 3) (hn9 : L.length ≤ 1000000000) : Con Try.prog [] 18 [.int p, .slice 0 0 L.length k] [(0, .ints 49 (L.flatten ++ sp))] (listO 49 [(0, .ints 49 (L.flatten ++ sp))] 1 (arcC p L) (comR p L).flatten (comR p L).length) := by
  by_cases hcd : arcC p L = 0
  · have hcs := arcC_set hcd
    have hp := (setC_zero hcs).1
    obtain ⟨hO, hPL⟩ := set_ok h3 hcs
    have hf3 := flat3 h3
    refine conW tab_ok [(0, .int p), (1, .slice 0 0 L.length k)] 1 [0] [0] Try.func18 rfl rfl rfl rfl rfl rfl rfl rfl rfl ?_
    refine cR ?_
    iterate 2 refine oA rfl rfl ?_
    refine oN ?_
    refine CW_seq ?_
    refine cR ?_
    iterate 2 refine oM rfl rfl ?_
    refine oQ (Q_call (arcCode_con p L sp k h3 hn9) [] rfl rfl (Fits.mk' (vHc rfl vHn) rfl rfl (by simp)) rfl rfl) rfl rfl ?_
    refine oA rfl rfl ?_
    refine oN ?_
    refine cR ?_
    refine oM rfl rfl ?_
    refine oQ (Q_bin rfl rfl rfl) rfl rfl ?_
    refine oN ?_
    first | refine cT rfl ?_ | refine cF rfl ?_ | refine CW_cond rfl (fun hc => ?_) (fun hc => ?_)
    all_goals try simp only [s1, s2, s3, s4, s5, s6, s7, s8, s9, s10, s11, s12] at hc
    all_goals try (exfalso; first | exact absurd hcd hc | exact absurd hc hcd; done)
    all_goals first
      | (
       refine CW_skip ?_)
      | (
       refine cR ?_
       refine oM rfl rfl ?_
       iterate 2 refine oA rfl rfl ?_
       refine oN ?_
       refine CW_ret ?_)
    all_goals first
      | with_reducible refine tR ?_
      | with_reducible refine tE ?_
      | (
       with_reducible refine tN ?_
       refine cR ?_
       iterate 2 refine oM rfl rfl ?_
       refine oCall (completion_con p L (L.flatten ++ sp) 0 k (by rw [List.length_append, hf3]; omega) (by rw [List.drop_zero, ← hf3, List.take_left]) hp hO) [] 2 rfl rfl (Fits.mk' (vHc rfl vHn) rfl rfl (by simp)) rfl rfl ?_
       rintro r H1 ⟨k9, sp9, hk9, hs9, rfl, rfl⟩
       refine ⟨.slice 2 0 (comR p L).length k9, [(0, .ints 49 (L.flatten ++ sp)), (2, .ints 49 ((comR p L).flatten ++ sp9))], rfl, rfl, rfl, ?_⟩
       iterate 2 refine oA rfl rfl ?_
       refine oN ?_
       refine CW_ret ?_)
    all_goals (
     first | (exfalso; first | exact hc hcd | exact hcd hc; done) | exact exitH (r0 := .tuple [.slice 1 0 (comR p L).length k9, .int 0]) (H0 := [(0, .ints 49 (L.flatten ++ sp)), (1, .ints 49 ((comR p L).flatten ++ sp9))]) (.inr rfl) [(1, 2)] 2 (.cons (.tmp rfl rfl) (.cons (.tmp rfl rfl) .nil)) rfl rfl rfl (vHc rfl (vHc rfl vHn)) rfl rfl (listO_ok hcd hk9))
  · skip
    refine conW tab_ok [(0, .int p), (1, .slice 0 0 L.length k)] 1 [0] [0] Try.func18 rfl rfl rfl rfl rfl rfl rfl rfl rfl ?_
    refine cR ?_
    iterate 2 refine oA rfl rfl ?_
    refine oN ?_
    refine CW_seq ?_
    refine cR ?_
    iterate 2 refine oM rfl rfl ?_
    refine oQ (Q_call (arcCode_con p L sp k h3 hn9) [] rfl rfl (Fits.mk' (vHc rfl vHn) rfl rfl (by simp)) rfl rfl) rfl rfl ?_
    refine oA rfl rfl ?_
    refine oN ?_
    refine cR ?_
    refine oM rfl rfl ?_
    refine oQ (Q_bin rfl rfl rfl) rfl rfl ?_
    refine oN ?_
    first | refine cT rfl ?_ | refine cF rfl ?_ | refine CW_cond rfl (fun hc => ?_) (fun hc => ?_)
    all_goals try simp only [s1, s2, s3, s4, s5, s6, s7, s8, s9, s10, s11, s12] at hc
    all_goals try (exfalso; first | exact absurd hcd hc | exact absurd hc hcd; done)
    all_goals first
      | (
       refine CW_skip ?_)
      | (
       refine cR ?_
       refine oM rfl rfl ?_
       iterate 2 refine oA rfl rfl ?_
       refine oN ?_
       refine CW_ret ?_)
    all_goals first
      | with_reducible refine tR ?_
      | with_reducible refine tE ?_
      | (
       with_reducible refine tN ?_
       refine cR ?_
       iterate 2 refine oM rfl rfl ?_
       (exfalso; first | exact hc hcd | exact hcd hc)
       iterate 2 refine oA rfl rfl ?_
       refine oN ?_
       refine CW_ret ?_)
    all_goals (
     first | (exfalso; first | exact hc hcd | exact hcd hc; done) | exact exitH (r0 := .tuple [.nilsl, .int (arcC p L)]) (H0 := [(0, .ints 49 (L.flatten ++ sp))]) (.inr rfl) [] 1 (.cons (.tmp rfl rfl) (.cons (.tmp rfl rfl) .nil)) rfl rfl rfl (vHc rfl vHn) rfl rfl (listO_no hcd))
theorem impl_CompleteArc_nil (p : Int) : Con Try.prog [] 18 [.int p, .nilsl] [] (listO 49 [] 0 (arcC p ([] : List (List Int))) (comR p ([] : List (List Int))).flatten (comR p ([] : List (List Int))).length) := by
  by_cases hcd : arcC p ([] : List (List Int)) = 0
  · have hcs := arcC_set hcd
    have hp := (setC_zero hcs).1
    refine conW tab_ok [(0, .int p), (1, .nilsl)] 0 [] [] Try.func18 rfl rfl rfl rfl rfl rfl rfl rfl rfl ?_
    refine cR ?_
    iterate 2 refine oA rfl rfl ?_
    refine oN ?_
    refine CW_seq ?_
    refine cR ?_
    iterate 2 refine oM rfl rfl ?_
    refine oQ (Q_call0 (arcCode_nil p ) rfl rfl rfl) rfl rfl ?_
    refine oA rfl rfl ?_
    refine oN ?_
    refine cR ?_
    refine oM rfl rfl ?_
    refine oQ (Q_bin rfl rfl rfl) rfl rfl ?_
    refine oN ?_
    first | refine cT rfl ?_ | refine cF rfl ?_ | refine CW_cond rfl (fun hc => ?_) (fun hc => ?_)
    all_goals try simp only [s1, s2, s3, s4, s5, s6, s7, s8, s9, s10, s11, s12] at hc
    all_goals try (exfalso; first | exact absurd hcd hc | exact absurd hc hcd; done)
    all_goals first
      | (
       refine CW_skip ?_)
      | (
       refine cR ?_
       refine oM rfl rfl ?_
       iterate 2 refine oA rfl rfl ?_
       refine oN ?_
       refine CW_ret ?_)
    all_goals first
      | with_reducible refine tR ?_
      | with_reducible refine tE ?_
      | (
       with_reducible refine tN ?_
       refine cR ?_
       iterate 2 refine oM rfl rfl ?_
       refine oCall (completion_nil p hp) [] 1 rfl rfl (Fits.mk' vHn rfl rfl (by simp)) rfl rfl ?_
       rintro r H1 ⟨k9, sp9, hk9, hs9, rfl, rfl⟩
       refine ⟨.slice 0 0 (comR p ([] : List (List Int))).length k9, [(0, .ints 49 ((comR p ([] : List (List Int))).flatten ++ sp9))], rfl, rfl, rfl, ?_⟩
       iterate 2 refine oA rfl rfl ?_
       refine oN ?_
       refine CW_ret ?_)
    all_goals (
     first | (exfalso; first | exact hc hcd | exact hcd hc; done) | exact exitH (r0 := .tuple [.slice 0 0 (comR p ([] : List (List Int))).length k9, .int 0]) (H0 := [(0, .ints 49 ((comR p ([] : List (List Int))).flatten ++ sp9))]) (.inr rfl) [(0, 0)] 1 (.cons (.tmp rfl rfl) (.cons (.tmp rfl rfl) .nil)) rfl rfl rfl (vHc rfl vHn) rfl rfl (listO_ok hcd hk9))
  · skip
    refine conW tab_ok [(0, .int p), (1, .nilsl)] 0 [] [] Try.func18 rfl rfl rfl rfl rfl rfl rfl rfl rfl ?_
    refine cR ?_
    iterate 2 refine oA rfl rfl ?_
    refine oN ?_
    refine CW_seq ?_
    refine cR ?_
    iterate 2 refine oM rfl rfl ?_
    refine oQ (Q_call0 (arcCode_nil p ) rfl rfl rfl) rfl rfl ?_
    refine oA rfl rfl ?_
    refine oN ?_
    refine cR ?_
    refine oM rfl rfl ?_
    refine oQ (Q_bin rfl rfl rfl) rfl rfl ?_
    refine oN ?_
    first | refine cT rfl ?_ | refine cF rfl ?_ | refine CW_cond rfl (fun hc => ?_) (fun hc => ?_)
    all_goals try simp only [s1, s2, s3, s4, s5, s6, s7, s8, s9, s10, s11, s12] at hc
    all_goals try (exfalso; first | exact absurd hcd hc | exact absurd hc hcd; done)
    all_goals first
      | (
       refine CW_skip ?_)
      | (
       refine cR ?_
       refine oM rfl rfl ?_
       iterate 2 refine oA rfl rfl ?_
       refine oN ?_
       refine CW_ret ?_)
    all_goals first
      | with_reducible refine tR ?_
      | with_reducible refine tE ?_
      | (
       with_reducible refine tN ?_
       refine cR ?_
       iterate 2 refine oM rfl rfl ?_
       (exfalso; first | exact hc hcd | exact hcd hc)
       iterate 2 refine oA rfl rfl ?_
       refine oN ?_
       refine CW_ret ?_)
    all_goals (
     first | (exfalso; first | exact hc hcd | exact hcd hc; done) | exact exitH (r0 := .tuple [.nilsl, .int (arcC p ([] : List (List Int)))]) (H0 := []) (.inr rfl) [] 0 (.cons (.tmp rfl rfl) (.cons (.tmp rfl rfl) .nil)) rfl rfl rfl vHn rfl rfl (listO_no hcd))
theorem spec_CompleteArc_con (p : Int) (L : List (List Int)) (sp : List Int) (k : Nat) (h3 : ∀ x ∈ L, x.length = 3) (hn9 : L.length ≤ 1000000000) : Con Try.prog [] 16 [.int p, .slice 0 0 L.length k] [(0, .ints 49 (L.flatten ++ sp))] (listO 49 [(0, .ints 49 (L.flatten ++ sp))] 1 (arcC p L) (comR p L).flatten (comR p L).length) := by
  by_cases hcd : arcC p L = 0
  · have hcs := arcC_set hcd
    have hp := (setC_zero hcs).1
    obtain ⟨hO, hPL⟩ := set_ok h3 hcs
    have hf3 := flat3 h3
    refine conW tab_ok [(0, .int p), (1, .slice 0 0 L.length k)] 1 [0] [0] Try.func16 rfl rfl rfl rfl rfl rfl rfl rfl rfl ?_
    refine cR ?_
    iterate 2 refine oA rfl rfl ?_
    refine oN ?_
    refine CW_seq ?_
    refine cR ?_
    iterate 2 refine oM rfl rfl ?_
    refine oQ (Q_call (l07Good_con p L sp k h3 hn9) [] rfl rfl (Fits.mk' (vHc rfl vHn) rfl rfl (by simp)) rfl rfl) rfl rfl ?_
    refine oA rfl rfl ?_
    refine oN ?_
    refine cR ?_
    refine oM rfl rfl ?_
    refine oQ (Q_bin rfl rfl rfl) rfl rfl ?_
    refine oN ?_
    first | refine cT rfl ?_ | refine cF rfl ?_ | refine CW_cond rfl (fun hc => ?_) (fun hc => ?_)
    all_goals try simp only [s1, s2, s3, s4, s5, s6, s7, s8, s9, s10, s11, s12] at hc
    all_goals try (exfalso; first | exact absurd hcd hc | exact absurd hc hcd; done)
    all_goals first
      | (
       refine CW_skip ?_)
      | (
       refine cR ?_
       refine oM rfl rfl ?_
       iterate 2 refine oA rfl rfl ?_
       refine oN ?_
       refine CW_ret ?_)
    all_goals first
      | with_reducible refine tR ?_
      | with_reducible refine tE ?_
      | (
       with_reducible refine tN ?_
       refine cR ?_
       iterate 2 refine oM rfl rfl ?_
       refine oCall (l07Complete_con p L sp k h3 hp hO hPL) [] 2 rfl rfl (Fits.mk' (vHc rfl vHn) rfl rfl (by simp)) rfl rfl ?_
       rintro r H1 ⟨k9, sp9, hk9, hs9, rfl, rfl⟩
       rw [show comS p L = comR p L from com_set hO hPL] at hk9 hs9 ⊢
       refine ⟨.slice 2 0 (comR p L).length k9, [(0, .ints 49 (L.flatten ++ sp)), (2, .ints 49 ((comR p L).flatten ++ sp9))], rfl, rfl, rfl, ?_⟩
       iterate 2 refine oA rfl rfl ?_
       refine oN ?_
       refine CW_ret ?_)
    all_goals (
     first | (exfalso; first | exact hc hcd | exact hcd hc; done) | exact exitH (r0 := .tuple [.slice 1 0 (comR p L).length k9, .int 0]) (H0 := [(0, .ints 49 (L.flatten ++ sp)), (1, .ints 49 ((comR p L).flatten ++ sp9))]) (.inr rfl) [(1, 2)] 2 (.cons (.tmp rfl rfl) (.cons (.tmp rfl rfl) .nil)) rfl rfl rfl (vHc rfl (vHc rfl vHn)) rfl rfl (listO_ok hcd hk9))
  · skip
    refine conW tab_ok [(0, .int p), (1, .slice 0 0 L.length k)] 1 [0] [0] Try.func16 rfl rfl rfl rfl rfl rfl rfl rfl rfl ?_
    refine cR ?_
    iterate 2 refine oA rfl rfl ?_
    refine oN ?_
    refine CW_seq ?_
    refine cR ?_
    iterate 2 refine oM rfl rfl ?_
    refine oQ (Q_call (l07Good_con p L sp k h3 hn9) [] rfl rfl (Fits.mk' (vHc rfl vHn) rfl rfl (by simp)) rfl rfl) rfl rfl ?_
    refine oA rfl rfl ?_
    refine oN ?_
    refine cR ?_
    refine oM rfl rfl ?_
    refine oQ (Q_bin rfl rfl rfl) rfl rfl ?_
    refine oN ?_
    first | refine cT rfl ?_ | refine cF rfl ?_ | refine CW_cond rfl (fun hc => ?_) (fun hc => ?_)
    all_goals try simp only [s1, s2, s3, s4, s5, s6, s7, s8, s9, s10, s11, s12] at hc
    all_goals try (exfalso; first | exact absurd hcd hc | exact absurd hc hcd; done)
    all_goals first
      | (
       refine CW_skip ?_)
      | (
       refine cR ?_
       refine oM rfl rfl ?_
       iterate 2 refine oA rfl rfl ?_
       refine oN ?_
       refine CW_ret ?_)
    all_goals first
      | with_reducible refine tR ?_
      | with_reducible refine tE ?_
      | (
       with_reducible refine tN ?_
       refine cR ?_
       iterate 2 refine oM rfl rfl ?_
       (exfalso; first | exact hc hcd | exact hcd hc)
       iterate 2 refine oA rfl rfl ?_
       refine oN ?_
       refine CW_ret ?_)
    all_goals (
     first | (exfalso; first | exact hc hcd | exact hcd hc; done) | exact exitH (r0 := .tuple [.nilsl, .int (arcC p L)]) (H0 := [(0, .ints 49 (L.flatten ++ sp))]) (.inr rfl) [] 1 (.cons (.tmp rfl rfl) (.cons (.tmp rfl rfl) .nil)) rfl rfl rfl (vHc rfl vHn) rfl rfl (listO_no hcd))
theorem spec_CompleteArc_M (p : Int) (M : List Int) (n k : Nat) (hM : n * 3 ≤ M.length) (hn : n ≤ 1000000000) : Con Try.prog [] 16 [.int p, .slice 0 0 n k] [(0, .ints 49 M)] (listO 49 [(0, .ints 49 M)] 1 (arcCM p M n) (comM p M n).flatten (comM p M n).length) := by
  have e := chunk_split hM
  have h := spec_CompleteArc_con p (chunk M n) (M.drop (n * 3)) k (chunk_three hM) (by rw [chunk_length]; exact hn)
  rw [chunk_length, ← e] at h
  exact h
theorem impl_CompleteArc_M (p : Int) (M : List Int) (n k : Nat) (hM : n * 3 ≤ M.length) (hn : n ≤ 1000000000) : Con Try.prog [] 18 [.int p, .slice 0 0 n k] [(0, .ints 49 M)] (listO 49 [(0, .ints 49 M)] 1 (arcCM p M n) (comM p M n).flatten (comM p M n).length) := by
  have e := chunk_split hM
  have h := impl_CompleteArc_con p (chunk M n) (M.drop (n * 3)) k (chunk_three hM) (by rw [chunk_length]; exact hn)
  rw [chunk_length, ← e] at h
  exact h
theorem impl_GreedyArc_a (p k : Int) (hpB : primeB p = false) : Con Try.prog [] 48 [.int p, .int k] [] (listR 3 49 [] 0 (greC p k) (greV p k)) := by
  have hcd : ¬ greC p k = 0 := fun h => by have := (greC_zero h).1; rw [hpB] at this; cases this
  have hcv : greC p k = 2 := if_neg (fun h => by have := h.1; rw [hpB] at this; cases this)
  have hpc := isPrime_con p
  rw [hpB] at hpc
  refine conW tab_ok [(0, .int p), (1, .int k)] 0 [] [] Try.func48 rfl rfl rfl rfl rfl rfl rfl rfl rfl ?_
  refine cR ?_
  iterate 2 refine oA rfl rfl ?_
  refine oN ?_
  refine CW_seq ?_
  refine cR ?_
  refine oM rfl rfl ?_
  refine oQ (Q_call0 (hpc) rfl rfl rfl) rfl rfl ?_
  refine oQ (Q_not rfl) rfl rfl ?_
  refine oM rfl rfl ?_
  all_goals first | refine oT rfl rfl ?_ | refine o1 rfl rfl rfl ?_ | refine o0 rfl rfl rfl ?_ | refine ogP1 rfl rfl rfl (fun hg => ?_) (fun hg => ?_) | refine ogP0 rfl rfl rfl (fun hg => ?_) (fun hg => ?_)
  all_goals try simp only [s1, s2, s3, s4, s5, s6, s7, s8, s9, s10, s11, s12] at hg
  all_goals first | (refine oM rfl rfl ?_) | skip
  all_goals first | refine oT rfl rfl ?_ | refine o1 rfl rfl rfl ?_ | refine o0 rfl rfl rfl ?_ | refine ogP1 rfl rfl rfl (fun hg => ?_) (fun hg => ?_) | refine ogP0 rfl rfl rfl (fun hg => ?_) (fun hg => ?_)
  all_goals try simp only [s1, s2, s3, s4, s5, s6, s7, s8, s9, s10, s11, s12] at hg
  all_goals first | (refine oM rfl rfl ?_) | skip
  all_goals first | refine oT rfl rfl ?_ | refine o1 rfl rfl rfl ?_ | refine o0 rfl rfl rfl ?_ | refine ogP1 rfl rfl rfl (fun hg => ?_) (fun hg => ?_) | refine ogP0 rfl rfl rfl (fun hg => ?_) (fun hg => ?_)
  all_goals try simp only [s1, s2, s3, s4, s5, s6, s7, s8, s9, s10, s11, s12] at hg
  all_goals first | (refine oM rfl rfl ?_) | skip
  all_goals first | refine oT rfl rfl ?_ | refine o1 rfl rfl rfl ?_ | refine o0 rfl rfl rfl ?_ | refine ogP1 rfl rfl rfl (fun hg => ?_) (fun hg => ?_) | refine ogP0 rfl rfl rfl (fun hg => ?_) (fun hg => ?_)
  all_goals try simp only [s1, s2, s3, s4, s5, s6, s7, s8, s9, s10, s11, s12] at hg
  all_goals first | (refine oQ (Q_bin rfl rfl rfl) rfl rfl ?_) | skip
  all_goals first | refine oT rfl rfl ?_ | refine o1 rfl rfl rfl ?_ | refine o0 rfl rfl rfl ?_ | refine ogP1 rfl rfl rfl (fun hg => ?_) (fun hg => ?_) | refine ogP0 rfl rfl rfl (fun hg => ?_) (fun hg => ?_)
  all_goals try simp only [s1, s2, s3, s4, s5, s6, s7, s8, s9, s10, s11, s12] at hg
  all_goals first | (refine oM rfl rfl ?_) | skip
  all_goals first | refine oT rfl rfl ?_ | refine o1 rfl rfl rfl ?_ | refine o0 rfl rfl rfl ?_ | refine ogP1 rfl rfl rfl (fun hg => ?_) (fun hg => ?_) | refine ogP0 rfl rfl rfl (fun hg => ?_) (fun hg => ?_)
  all_goals try simp only [s1, s2, s3, s4, s5, s6, s7, s8, s9, s10, s11, s12] at hg
  all_goals first | (refine oQ (Q_bin rfl rfl rfl) rfl rfl ?_) | skip
  all_goals first | refine oT rfl rfl ?_ | refine o1 rfl rfl rfl ?_ | refine o0 rfl rfl rfl ?_ | refine ogP1 rfl rfl rfl (fun hg => ?_) (fun hg => ?_) | refine ogP0 rfl rfl rfl (fun hg => ?_) (fun hg => ?_)
  all_goals try simp only [s1, s2, s3, s4, s5, s6, s7, s8, s9, s10, s11, s12] at hg
  all_goals first | ((exfalso; exact absurd hg (by decide))) | skip
  all_goals first | refine oT rfl rfl ?_ | refine o1 rfl rfl rfl ?_ | refine o0 rfl rfl rfl ?_ | refine ogP1 rfl rfl rfl (fun hg => ?_) (fun hg => ?_) | refine ogP0 rfl rfl rfl (fun hg => ?_) (fun hg => ?_)
  all_goals try simp only [s1, s2, s3, s4, s5, s6, s7, s8, s9, s10, s11, s12] at hg
  all_goals first | (refine oQ (Q_not rfl) rfl rfl ?_) | skip
  all_goals first | refine oQ (Q_pick_t rfl (by with_reducible rfl) rfl rfl) rfl rfl ?_ | refine oQ (Q_pick_f rfl (by with_reducible rfl) rfl rfl) rfl rfl ?_
  all_goals refine oN ?_
  all_goals (
   first | refine cT rfl ?_ | refine cF rfl ?_ | refine CW_cond rfl (fun hc => ?_) (fun hc => ?_)
   all_goals try simp only [s1, s2, s3, s4, s5, s6, s7, s8, s9, s10, s11, s12] at hc
   all_goals try (exfalso; first | exact absurd trivial hc | (simp at hc; done); done)
   all_goals first
     | (
      refine CW_skip ?_)
     | (
      refine cR ?_
      iterate 2 refine oA rfl rfl ?_
      refine oN ?_
      refine CW_ret ?_))
  all_goals first
    | with_reducible refine tR ?_
    | with_reducible refine tE ?_
    | (
     with_reducible refine tN ?_
     refine cR ?_
     iterate 2 refine oM rfl rfl ?_
     (exfalso; simp at hc; done)
     iterate 2 refine oM rfl rfl ?_
     first | refine oQ (Q_binu rfl rfl rfl (by omega)) rfl rfl ?_ | refine oQ (Q_bin rfl rfl rfl) rfl rfl ?_
     refine oQ (Q_sls rfl rfl rfl rfl rfl rfl rfl (by decide) ⟨(by first | omega | (dsimp only; omega) | (simp; omega) | (simp; done)), (by first | omega | (dsimp only; omega) | (simp; omega) | (simp; done)), (by first | omega | (dsimp only; omega) | (simp; omega) | (simp; done))⟩) rfl rfl ?_
     (exfalso; simp at hc; done)
     iterate 2 refine oA rfl rfl ?_
     refine oN ?_
     refine CW_ret ?_)
  all_goals (
   first | (exfalso; exact absurd hg (by decide)) | (exfalso; simp at hc; done) | exact exitH (r0 := .tuple [.nilsl, .int 2]) (H0 := []) (.inr rfl) [] 0 (.cons (.tmp rfl rfl) (.cons (.tmp rfl rfl) .nil)) rfl rfl rfl vHn rfl rfl (listR_no hcd (by rw [hcv]) rfl))
theorem impl_GreedyArc_b (p : Int) (kn : Nat) (hpB : primeB p = true) (hk : (kn : Int) ≤ p * p + p) : Con Try.prog [] 48 [.int p, .int (kn : Int)] [] (listR 3 49 [] 0 (greC p (kn : Int)) (greV p (kn : Int))) := by
  have hb := prime_bd hpB
  have hpp : 9 ≤ p * p ∧ p * p ≤ 169 := by rcases prime_cases hpB with rfl | rfl | rfl | rfl | rfl <;> decide
  have hpc := isPrime_con p
  rw [hpB] at hpc
  have hcd : greC p (kn : Int) = 0 := if_pos ⟨hpB, by omega, hk⟩
  have hrc := within_con (kn : Int) 0 (p * p + p)
  have hct := allPts_count hpB
  have hkl : kn < (allPts p).length := by omega
  have ha := getD_mem (L := allPts p) hkl
  have ha3 := allPts_three ha
  have hal := allPts_len hpB
  have h3a : ∀ x ∈ (allPts p), x.length = 3 := fun x hx => allPts_three hx
  have hfa := flat3 h3a
  have hgv : greV p (kn : Int) = comR p [(allPts p).getD kn []] := rfl
  rw [show (decide ((0 : Int) ≤ (kn : Int)) && decide ((kn : Int) ≤ p * p + p)) = true by rw [Bool.and_eq_true, decide_eq_true_eq, decide_eq_true_eq]; exact ⟨by omega, hk⟩] at hrc
  refine conW tab_ok [(0, .int p), (1, .int (kn : Int))] 0 [] [] Try.func48 rfl rfl rfl rfl rfl rfl rfl rfl rfl ?_
  refine cR ?_
  iterate 2 refine oA rfl rfl ?_
  refine oN ?_
  refine CW_seq ?_
  refine cR ?_
  refine oM rfl rfl ?_
  refine oQ (Q_call0 (hpc) rfl rfl rfl) rfl rfl ?_
  refine oQ (Q_not rfl) rfl rfl ?_
  refine oM rfl rfl ?_
  all_goals first | refine oT rfl rfl ?_ | refine o1 rfl rfl rfl ?_ | refine o0 rfl rfl rfl ?_ | refine ogP1 rfl rfl rfl (fun hg => ?_) (fun hg => ?_) | refine ogP0 rfl rfl rfl (fun hg => ?_) (fun hg => ?_)
  all_goals try simp only [s1, s2, s3, s4, s5, s6, s7, s8, s9, s10, s11, s12] at hg
  all_goals first | (refine oM rfl rfl ?_) | skip
  all_goals first | refine oT rfl rfl ?_ | refine o1 rfl rfl rfl ?_ | refine o0 rfl rfl rfl ?_ | refine ogP1 rfl rfl rfl (fun hg => ?_) (fun hg => ?_) | refine ogP0 rfl rfl rfl (fun hg => ?_) (fun hg => ?_)
  all_goals try simp only [s1, s2, s3, s4, s5, s6, s7, s8, s9, s10, s11, s12] at hg
  all_goals first | (refine oM rfl rfl ?_) | skip
  all_goals first | refine oT rfl rfl ?_ | refine o1 rfl rfl rfl ?_ | refine o0 rfl rfl rfl ?_ | refine ogP1 rfl rfl rfl (fun hg => ?_) (fun hg => ?_) | refine ogP0 rfl rfl rfl (fun hg => ?_) (fun hg => ?_)
  all_goals try simp only [s1, s2, s3, s4, s5, s6, s7, s8, s9, s10, s11, s12] at hg
  all_goals first | (refine oM rfl rfl ?_) | skip
  all_goals first | refine oT rfl rfl ?_ | refine o1 rfl rfl rfl ?_ | refine o0 rfl rfl rfl ?_ | refine ogP1 rfl rfl rfl (fun hg => ?_) (fun hg => ?_) | refine ogP0 rfl rfl rfl (fun hg => ?_) (fun hg => ?_)
  all_goals try simp only [s1, s2, s3, s4, s5, s6, s7, s8, s9, s10, s11, s12] at hg
  all_goals first | refine oQ (Q_binu rfl rfl rfl (by omega)) rfl rfl ?_ | refine oQ (Q_bin rfl rfl rfl) rfl rfl ?_ | skip
  all_goals first | refine oT rfl rfl ?_ | refine o1 rfl rfl rfl ?_ | refine o0 rfl rfl rfl ?_ | refine ogP1 rfl rfl rfl (fun hg => ?_) (fun hg => ?_) | refine ogP0 rfl rfl rfl (fun hg => ?_) (fun hg => ?_)
  all_goals try simp only [s1, s2, s3, s4, s5, s6, s7, s8, s9, s10, s11, s12] at hg
  all_goals first | (refine oM rfl rfl ?_) | skip
  all_goals first | refine oT rfl rfl ?_ | refine o1 rfl rfl rfl ?_ | refine o0 rfl rfl rfl ?_ | refine ogP1 rfl rfl rfl (fun hg => ?_) (fun hg => ?_) | refine ogP0 rfl rfl rfl (fun hg => ?_) (fun hg => ?_)
  all_goals try simp only [s1, s2, s3, s4, s5, s6, s7, s8, s9, s10, s11, s12] at hg
  all_goals first | refine oQ (Q_binu rfl rfl rfl (by omega)) rfl rfl ?_ | refine oQ (Q_bin rfl rfl rfl) rfl rfl ?_ | skip
  all_goals first | refine oT rfl rfl ?_ | refine o1 rfl rfl rfl ?_ | refine o0 rfl rfl rfl ?_ | refine ogP1 rfl rfl rfl (fun hg => ?_) (fun hg => ?_) | refine ogP0 rfl rfl rfl (fun hg => ?_) (fun hg => ?_)
  all_goals try simp only [s1, s2, s3, s4, s5, s6, s7, s8, s9, s10, s11, s12] at hg
  all_goals first | (refine oQ (Q_call0 (hrc) rfl rfl rfl) rfl rfl ?_) | skip
  all_goals first | refine oT rfl rfl ?_ | refine o1 rfl rfl rfl ?_ | refine o0 rfl rfl rfl ?_ | refine ogP1 rfl rfl rfl (fun hg => ?_) (fun hg => ?_) | refine ogP0 rfl rfl rfl (fun hg => ?_) (fun hg => ?_)
  all_goals try simp only [s1, s2, s3, s4, s5, s6, s7, s8, s9, s10, s11, s12] at hg
  all_goals first | (refine oQ (Q_not rfl) rfl rfl ?_) | skip
  all_goals first | refine oQ (Q_pick_t rfl (by with_reducible rfl) rfl rfl) rfl rfl ?_ | refine oQ (Q_pick_f rfl (by with_reducible rfl) rfl rfl) rfl rfl ?_
  all_goals refine oN ?_
  all_goals (
   first | refine cT rfl ?_ | refine cF rfl ?_ | refine CW_cond rfl (fun hc => ?_) (fun hc => ?_)
   all_goals try simp only [s1, s2, s3, s4, s5, s6, s7, s8, s9, s10, s11, s12] at hc
   all_goals try (exfalso; first | exact absurd trivial hc | (simp at hc; done) | (simp at hg; done); done)
   all_goals first
     | (
      refine CW_skip ?_)
     | (
      refine cR ?_
      iterate 2 refine oA rfl rfl ?_
      refine oN ?_
      refine CW_ret ?_))
  all_goals first
    | with_reducible refine tR ?_
    | with_reducible refine tE ?_
    | (
     with_reducible refine tN ?_
     refine cR ?_
     iterate 2 refine oM rfl rfl ?_
     refine oCall (allPoints_con p hpB) [] 1 rfl rfl (Fits.mk' vHn rfl rfl (by simp)) rfl rfl ?_
     rintro r H1 ⟨k0, sp0, hk0, hsp0, rfl, rfl⟩
     refine ⟨.slice 0 0 (allPts p).length k0, [(0, .ints 49 ((allPts p).flatten ++ sp0))], rfl, rfl, rfl, ?_⟩
     iterate 2 refine oM rfl rfl ?_
     first | refine oQ (Q_binu rfl rfl rfl (by omega)) rfl rfl ?_ | refine oQ (Q_bin rfl rfl rfl) rfl rfl ?_
     refine oQ (Q_sls (l := kn) (h := kn + 1) (m := k0) rfl rfl rfl rfl rfl rfl rfl (by decide) ⟨by omega, by omega, by omega⟩) rfl rfl ?_; rw [if_neg (show ¬ k0 = kn by omega), Nat.zero_add, show kn + 1 - kn = 1 by omega]
     refine oCall (completion_con p [(allPts p).getD kn []] ((allPts p).flatten ++ sp0) (kn * 3) (k0 - kn) (by rw [List.length_append, hfa, List.length_singleton]; omega) (by rw [List.length_singleton, Nat.one_mul, flat_get h3a hkl]; simp) hpB (ok_one ha)) [] 2 rfl rfl (Fits.mk' (vHc rfl vHn) rfl rfl (by simp)) rfl rfl ?_
     rintro r H1 ⟨k9, sp9, hk9, hs9, rfl, rfl⟩
     refine ⟨.slice 2 0 (greV p (kn : Int)).length k9, [(0, .ints 49 ((allPts p).flatten ++ sp0)), (2, .ints 49 ((greV p (kn : Int)).flatten ++ sp9))], rfl, rfl, rfl, ?_⟩
     iterate 2 refine oA rfl rfl ?_
     refine oN ?_
     refine CW_ret ?_)
  all_goals (
   first | (exfalso; exact absurd hg (by decide)) | (exfalso; simp at hc; done) | exact exitH (r0 := .tuple [.slice 0 0 (greV p (kn : Int)).length k9, .int 0]) (H0 := [(0, .ints 49 ((greV p (kn : Int)).flatten ++ sp9))]) (.inr rfl) [(0, 2)] 1 (.cons (.tmp rfl rfl) (.cons (.tmp rfl rfl) .nil)) rfl rfl rfl (vHc rfl vHn) rfl rfl (listR_ok hcd hk9 hs9 rfl rfl))
theorem impl_GreedyArc_c (p k : Int) (hpB : primeB p = true) (hk : ¬ (0 ≤ k ∧ k ≤ p * p + p)) : Con Try.prog [] 48 [.int p, .int k] [] (listR 3 49 [] 0 (greC p k) (greV p k)) := by
  have hb := prime_bd hpB
  have hpp : 9 ≤ p * p ∧ p * p ≤ 169 := by rcases prime_cases hpB with rfl | rfl | rfl | rfl | rfl <;> decide
  have hpc := isPrime_con p
  rw [hpB] at hpc
  have hcd : ¬ greC p k = 0 := fun h => hk (greC_zero h).2
  have hcv : greC p k = 2 := if_neg (fun h => hk h.2)
  have hrc := within_con k 0 (p * p + p)
  rw [show (decide (0 ≤ k) && decide (k ≤ p * p + p)) = false by rw [Bool.eq_false_iff]; intro h; rw [Bool.and_eq_true, decide_eq_true_eq, decide_eq_true_eq] at h; exact hk h] at hrc
  refine conW tab_ok [(0, .int p), (1, .int k)] 0 [] [] Try.func48 rfl rfl rfl rfl rfl rfl rfl rfl rfl ?_
  refine cR ?_
  iterate 2 refine oA rfl rfl ?_
  refine oN ?_
  refine CW_seq ?_
  refine cR ?_
  refine oM rfl rfl ?_
  refine oQ (Q_call0 (hpc) rfl rfl rfl) rfl rfl ?_
  refine oQ (Q_not rfl) rfl rfl ?_
  refine oM rfl rfl ?_
  all_goals first | refine oT rfl rfl ?_ | refine o1 rfl rfl rfl ?_ | refine o0 rfl rfl rfl ?_ | refine ogP1 rfl rfl rfl (fun hg => ?_) (fun hg => ?_) | refine ogP0 rfl rfl rfl (fun hg => ?_) (fun hg => ?_)
  all_goals try simp only [s1, s2, s3, s4, s5, s6, s7, s8, s9, s10, s11, s12] at hg
  all_goals first | (refine oM rfl rfl ?_) | skip
  all_goals first | refine oT rfl rfl ?_ | refine o1 rfl rfl rfl ?_ | refine o0 rfl rfl rfl ?_ | refine ogP1 rfl rfl rfl (fun hg => ?_) (fun hg => ?_) | refine ogP0 rfl rfl rfl (fun hg => ?_) (fun hg => ?_)
  all_goals try simp only [s1, s2, s3, s4, s5, s6, s7, s8, s9, s10, s11, s12] at hg
  all_goals first | (refine oM rfl rfl ?_) | skip
  all_goals first | refine oT rfl rfl ?_ | refine o1 rfl rfl rfl ?_ | refine o0 rfl rfl rfl ?_ | refine ogP1 rfl rfl rfl (fun hg => ?_) (fun hg => ?_) | refine ogP0 rfl rfl rfl (fun hg => ?_) (fun hg => ?_)
  all_goals try simp only [s1, s2, s3, s4, s5, s6, s7, s8, s9, s10, s11, s12] at hg
  all_goals first | (refine oM rfl rfl ?_) | skip
  all_goals first | refine oT rfl rfl ?_ | refine o1 rfl rfl rfl ?_ | refine o0 rfl rfl rfl ?_ | refine ogP1 rfl rfl rfl (fun hg => ?_) (fun hg => ?_) | refine ogP0 rfl rfl rfl (fun hg => ?_) (fun hg => ?_)
  all_goals try simp only [s1, s2, s3, s4, s5, s6, s7, s8, s9, s10, s11, s12] at hg
  all_goals first | refine oQ (Q_binu rfl rfl rfl (by omega)) rfl rfl ?_ | refine oQ (Q_bin rfl rfl rfl) rfl rfl ?_ | skip
  all_goals first | refine oT rfl rfl ?_ | refine o1 rfl rfl rfl ?_ | refine o0 rfl rfl rfl ?_ | refine ogP1 rfl rfl rfl (fun hg => ?_) (fun hg => ?_) | refine ogP0 rfl rfl rfl (fun hg => ?_) (fun hg => ?_)
  all_goals try simp only [s1, s2, s3, s4, s5, s6, s7, s8, s9, s10, s11, s12] at hg
  all_goals first | (refine oM rfl rfl ?_) | skip
  all_goals first | refine oT rfl rfl ?_ | refine o1 rfl rfl rfl ?_ | refine o0 rfl rfl rfl ?_ | refine ogP1 rfl rfl rfl (fun hg => ?_) (fun hg => ?_) | refine ogP0 rfl rfl rfl (fun hg => ?_) (fun hg => ?_)
  all_goals try simp only [s1, s2, s3, s4, s5, s6, s7, s8, s9, s10, s11, s12] at hg
  all_goals first | refine oQ (Q_binu rfl rfl rfl (by omega)) rfl rfl ?_ | refine oQ (Q_bin rfl rfl rfl) rfl rfl ?_ | skip
  all_goals first | refine oT rfl rfl ?_ | refine o1 rfl rfl rfl ?_ | refine o0 rfl rfl rfl ?_ | refine ogP1 rfl rfl rfl (fun hg => ?_) (fun hg => ?_) | refine ogP0 rfl rfl rfl (fun hg => ?_) (fun hg => ?_)
  all_goals try simp only [s1, s2, s3, s4, s5, s6, s7, s8, s9, s10, s11, s12] at hg
  all_goals first | (refine oQ (Q_call0 (hrc) rfl rfl rfl) rfl rfl ?_) | skip
  all_goals first | refine oT rfl rfl ?_ | refine o1 rfl rfl rfl ?_ | refine o0 rfl rfl rfl ?_ | refine ogP1 rfl rfl rfl (fun hg => ?_) (fun hg => ?_) | refine ogP0 rfl rfl rfl (fun hg => ?_) (fun hg => ?_)
  all_goals try simp only [s1, s2, s3, s4, s5, s6, s7, s8, s9, s10, s11, s12] at hg
  all_goals first | (refine oQ (Q_not rfl) rfl rfl ?_) | skip
  all_goals first | refine oQ (Q_pick_t rfl (by with_reducible rfl) rfl rfl) rfl rfl ?_ | refine oQ (Q_pick_f rfl (by with_reducible rfl) rfl rfl) rfl rfl ?_
  all_goals refine oN ?_
  all_goals (
   first | refine cT rfl ?_ | refine cF rfl ?_ | refine CW_cond rfl (fun hc => ?_) (fun hc => ?_)
   all_goals try simp only [s1, s2, s3, s4, s5, s6, s7, s8, s9, s10, s11, s12] at hc
   all_goals try (exfalso; first | exact absurd trivial hc | (simp at hc; done) | (simp at hg; done); done)
   all_goals first
     | (
      refine CW_skip ?_)
     | (
      refine cR ?_
      iterate 2 refine oA rfl rfl ?_
      refine oN ?_
      refine CW_ret ?_))
  all_goals first
    | with_reducible refine tR ?_
    | with_reducible refine tE ?_
    | (
     with_reducible refine tN ?_
     refine cR ?_
     iterate 2 refine oM rfl rfl ?_
     (exfalso; simp at hc; done)
     iterate 2 refine oM rfl rfl ?_
     first | refine oQ (Q_binu rfl rfl rfl (by omega)) rfl rfl ?_ | refine oQ (Q_bin rfl rfl rfl) rfl rfl ?_
     refine oQ (Q_sls rfl rfl rfl rfl rfl rfl rfl (by decide) ⟨(by first | omega | (dsimp only; omega) | (simp; omega) | (simp; done)), (by first | omega | (dsimp only; omega) | (simp; omega) | (simp; done)), (by first | omega | (dsimp only; omega) | (simp; omega) | (simp; done))⟩) rfl rfl ?_
     (exfalso; simp at hc; done)
     iterate 2 refine oA rfl rfl ?_
     refine oN ?_
     refine CW_ret ?_)
  all_goals (
   first | (exfalso; exact absurd hg (by decide)) | (exfalso; simp at hc; done) | exact exitH (r0 := .tuple [.nilsl, .int 2]) (H0 := []) (.inr rfl) [] 0 (.cons (.tmp rfl rfl) (.cons (.tmp rfl rfl) .nil)) rfl rfl rfl vHn rfl rfl (listR_no hcd (by rw [hcv]) rfl))
theorem impl_GreedyArc_con (p k : Int) : Con Try.prog [] 48 [.int p, .int k] [] (listR 3 49 [] 0 (greC p k) (greV p k)) := by
  cases hpB : primeB p
  · exact impl_GreedyArc_a p k hpB
  · by_cases hk : 0 ≤ k ∧ k ≤ p * p + p
    · obtain ⟨kn, rfl⟩ : ∃ kn : Nat, k = (kn : Int) := ⟨k.toNat, by omega⟩
      exact impl_GreedyArc_b p kn hpB hk.2
    · exact impl_GreedyArc_c p k hpB hk
theorem spec_GreedyArc_a (p k : Int) (hpB : primeB p = false) : Con Try.prog [] 47 [.int p, .int k] [] (listR 3 49 [] 0 (greC p k) (greV p k)) := by
  have hcd : ¬ greC p k = 0 := fun h => by have := (greC_zero h).1; rw [hpB] at this; cases this
  have hcv : greC p k = 2 := if_neg (fun h => by have := h.1; rw [hpB] at this; cases this)
  have hpc := l01Prime_con p
  rw [hpB] at hpc
  refine conW tab_ok [(0, .int p), (1, .int k)] 0 [] [] Try.func47 rfl rfl rfl rfl rfl rfl rfl rfl rfl ?_
  refine cR ?_
  iterate 2 refine oA rfl rfl ?_
  refine oN ?_
  refine CW_seq ?_
  refine cR ?_
  refine oM rfl rfl ?_
  refine oQ (Q_call0 (hpc) rfl rfl rfl) rfl rfl ?_
  refine oQ (Q_not rfl) rfl rfl ?_
  refine oM rfl rfl ?_
  all_goals first | refine oT rfl rfl ?_ | refine o1 rfl rfl rfl ?_ | refine o0 rfl rfl rfl ?_ | refine ogP1 rfl rfl rfl (fun hg => ?_) (fun hg => ?_) | refine ogP0 rfl rfl rfl (fun hg => ?_) (fun hg => ?_)
  all_goals try simp only [s1, s2, s3, s4, s5, s6, s7, s8, s9, s10, s11, s12] at hg
  all_goals first | (refine oM rfl rfl ?_) | skip
  all_goals first | refine oT rfl rfl ?_ | refine o1 rfl rfl rfl ?_ | refine o0 rfl rfl rfl ?_ | refine ogP1 rfl rfl rfl (fun hg => ?_) (fun hg => ?_) | refine ogP0 rfl rfl rfl (fun hg => ?_) (fun hg => ?_)
  all_goals try simp only [s1, s2, s3, s4, s5, s6, s7, s8, s9, s10, s11, s12] at hg
  all_goals first | (refine oM rfl rfl ?_) | skip
  all_goals first | refine oT rfl rfl ?_ | refine o1 rfl rfl rfl ?_ | refine o0 rfl rfl rfl ?_ | refine ogP1 rfl rfl rfl (fun hg => ?_) (fun hg => ?_) | refine ogP0 rfl rfl rfl (fun hg => ?_) (fun hg => ?_)
  all_goals try simp only [s1, s2, s3, s4, s5, s6, s7, s8, s9, s10, s11, s12] at hg
  all_goals first | (refine oM rfl rfl ?_) | skip
  all_goals first | refine oT rfl rfl ?_ | refine o1 rfl rfl rfl ?_ | refine o0 rfl rfl rfl ?_ | refine ogP1 rfl rfl rfl (fun hg => ?_) (fun hg => ?_) | refine ogP0 rfl rfl rfl (fun hg => ?_) (fun hg => ?_)
  all_goals try simp only [s1, s2, s3, s4, s5, s6, s7, s8, s9, s10, s11, s12] at hg
  all_goals first | (refine oQ (Q_bin rfl rfl rfl) rfl rfl ?_) | skip
  all_goals first | refine oT rfl rfl ?_ | refine o1 rfl rfl rfl ?_ | refine o0 rfl rfl rfl ?_ | refine ogP1 rfl rfl rfl (fun hg => ?_) (fun hg => ?_) | refine ogP0 rfl rfl rfl (fun hg => ?_) (fun hg => ?_)
  all_goals try simp only [s1, s2, s3, s4, s5, s6, s7, s8, s9, s10, s11, s12] at hg
  all_goals first | (refine oM rfl rfl ?_) | skip
  all_goals first | refine oT rfl rfl ?_ | refine o1 rfl rfl rfl ?_ | refine o0 rfl rfl rfl ?_ | refine ogP1 rfl rfl rfl (fun hg => ?_) (fun hg => ?_) | refine ogP0 rfl rfl rfl (fun hg => ?_) (fun hg => ?_)
  all_goals try simp only [s1, s2, s3, s4, s5, s6, s7, s8, s9, s10, s11, s12] at hg
  all_goals first | (refine oQ (Q_bin rfl rfl rfl) rfl rfl ?_) | skip
  all_goals first | refine oT rfl rfl ?_ | refine o1 rfl rfl rfl ?_ | refine o0 rfl rfl rfl ?_ | refine ogP1 rfl rfl rfl (fun hg => ?_) (fun hg => ?_) | refine ogP0 rfl rfl rfl (fun hg => ?_) (fun hg => ?_)
  all_goals try simp only [s1, s2, s3, s4, s5, s6, s7, s8, s9, s10, s11, s12] at hg
  all_goals first | ((exfalso; exact absurd hg (by decide))) | skip
  all_goals first | refine oT rfl rfl ?_ | refine o1 rfl rfl rfl ?_ | refine o0 rfl rfl rfl ?_ | refine ogP1 rfl rfl rfl (fun hg => ?_) (fun hg => ?_) | refine ogP0 rfl rfl rfl (fun hg => ?_) (fun hg => ?_)
  all_goals try simp only [s1, s2, s3, s4, s5, s6, s7, s8, s9, s10, s11, s12] at hg
  all_goals first | (refine oQ (Q_not rfl) rfl rfl ?_) | skip
  all_goals first | refine oQ (Q_pick_t rfl (by with_reducible rfl) rfl rfl) rfl rfl ?_ | refine oQ (Q_pick_f rfl (by with_reducible rfl) rfl rfl) rfl rfl ?_
  all_goals refine oN ?_
  all_goals (
   first | refine cT rfl ?_ | refine cF rfl ?_ | refine CW_cond rfl (fun hc => ?_) (fun hc => ?_)
   all_goals try simp only [s1, s2, s3, s4, s5, s6, s7, s8, s9, s10, s11, s12] at hc
   all_goals try (exfalso; first | exact absurd trivial hc | (simp at hc; done); done)
   all_goals first
     | (
      refine CW_skip ?_)
     | (
      refine cR ?_
      iterate 2 refine oA rfl rfl ?_
      refine oN ?_
      refine CW_ret ?_))
  all_goals first
    | with_reducible refine tR ?_
    | with_reducible refine tE ?_
    | (
     with_reducible refine tN ?_
     refine cR ?_
     iterate 2 refine oM rfl rfl ?_
     (exfalso; simp at hc; done)
     refine oM rfl rfl ?_
     first | refine oQ (Q_ixs0z 3 rfl rfl rfl rfl rfl rfl (by first | omega | (dsimp only; omega) | (simp; omega) | (simp; done))) rfl rfl ?_ | refine oQ (Q_ixsz 3 rfl rfl rfl rfl rfl rfl (by first | omega | (dsimp only; omega) | (simp; omega) | (simp; done))) rfl rfl ?_
     first | refine oQ (Lw rfl rfl rfl rfl) rfl rfl ?_ | refine oQ (La rfl rfl rfl rfl rfl) rfl rfl ?_
     refine oBsl rfl rfl rfl rfl (.inr ⟨rfl, rfl, by decide⟩) rfl rfl rfl rfl rfl rfl ?_
     (exfalso; simp at hc; done)
     iterate 2 refine oA rfl rfl ?_
     refine oN ?_
     refine CW_ret ?_)
  all_goals (
   first | (exfalso; exact absurd hg (by decide)) | (exfalso; simp at hc; done) | exact exitH (r0 := .tuple [.nilsl, .int 2]) (H0 := []) (.inr rfl) [] 0 (.cons (.tmp rfl rfl) (.cons (.tmp rfl rfl) .nil)) rfl rfl rfl vHn rfl rfl (listR_no hcd (by rw [hcv]) rfl))
theorem spec_GreedyArc_b (p : Int) (kn : Nat) (hpB : primeB p = true) (hk : (kn : Int) ≤ p * p + p) : Con Try.prog [] 47 [.int p, .int (kn : Int)] [] (listR 3 49 [] 0 (greC p (kn : Int)) (greV p (kn : Int))) := by
  have hb := prime_bd hpB
  have hpp : 9 ≤ p * p ∧ p * p ≤ 169 := by rcases prime_cases hpB with rfl | rfl | rfl | rfl | rfl <;> decide
  have hpc := l01Prime_con p
  rw [hpB] at hpc
  have hcd : greC p (kn : Int) = 0 := if_pos ⟨hpB, by omega, hk⟩
  have hrc := l01In_con (kn : Int) 0 (p * p + p)
  have hct := allPts_count hpB
  have hkl : kn < (allPts p).length := by omega
  have ha := getD_mem (L := allPts p) hkl
  have ha3 := allPts_three ha
  have hal := allPts_len hpB
  have h3a : ∀ x ∈ (allPts p), x.length = 3 := fun x hx => allPts_three hx
  have hfa := flat3 h3a
  have hgv : greV p (kn : Int) = comR p [(allPts p).getD kn []] := rfl
  rw [show (decide ((0 : Int) ≤ (kn : Int)) && decide ((kn : Int) ≤ p * p + p)) = true by rw [Bool.and_eq_true, decide_eq_true_eq, decide_eq_true_eq]; exact ⟨by omega, hk⟩] at hrc
  refine conW tab_ok [(0, .int p), (1, .int (kn : Int))] 0 [] [] Try.func47 rfl rfl rfl rfl rfl rfl rfl rfl rfl ?_
  refine cR ?_
  iterate 2 refine oA rfl rfl ?_
  refine oN ?_
  refine CW_seq ?_
  refine cR ?_
  refine oM rfl rfl ?_
  refine oQ (Q_call0 (hpc) rfl rfl rfl) rfl rfl ?_
  refine oQ (Q_not rfl) rfl rfl ?_
  refine oM rfl rfl ?_
  all_goals first | refine oT rfl rfl ?_ | refine o1 rfl rfl rfl ?_ | refine o0 rfl rfl rfl ?_ | refine ogP1 rfl rfl rfl (fun hg => ?_) (fun hg => ?_) | refine ogP0 rfl rfl rfl (fun hg => ?_) (fun hg => ?_)
  all_goals try simp only [s1, s2, s3, s4, s5, s6, s7, s8, s9, s10, s11, s12] at hg
  all_goals first | (refine oM rfl rfl ?_) | skip
  all_goals first | refine oT rfl rfl ?_ | refine o1 rfl rfl rfl ?_ | refine o0 rfl rfl rfl ?_ | refine ogP1 rfl rfl rfl (fun hg => ?_) (fun hg => ?_) | refine ogP0 rfl rfl rfl (fun hg => ?_) (fun hg => ?_)
  all_goals try simp only [s1, s2, s3, s4, s5, s6, s7, s8, s9, s10, s11, s12] at hg
  all_goals first | (refine oM rfl rfl ?_) | skip
  all_goals first | refine oT rfl rfl ?_ | refine o1 rfl rfl rfl ?_ | refine o0 rfl rfl rfl ?_ | refine ogP1 rfl rfl rfl (fun hg => ?_) (fun hg => ?_) | refine ogP0 rfl rfl rfl (fun hg => ?_) (fun hg => ?_)
  all_goals try simp only [s1, s2, s3, s4, s5, s6, s7, s8, s9, s10, s11, s12] at hg
  all_goals first | (refine oM rfl rfl ?_) | skip
  all_goals first | refine oT rfl rfl ?_ | refine o1 rfl rfl rfl ?_ | refine o0 rfl rfl rfl ?_ | refine ogP1 rfl rfl rfl (fun hg => ?_) (fun hg => ?_) | refine ogP0 rfl rfl rfl (fun hg => ?_) (fun hg => ?_)
  all_goals try simp only [s1, s2, s3, s4, s5, s6, s7, s8, s9, s10, s11, s12] at hg
  all_goals first | refine oQ (Q_binu rfl rfl rfl (by omega)) rfl rfl ?_ | refine oQ (Q_bin rfl rfl rfl) rfl rfl ?_ | skip
  all_goals first | refine oT rfl rfl ?_ | refine o1 rfl rfl rfl ?_ | refine o0 rfl rfl rfl ?_ | refine ogP1 rfl rfl rfl (fun hg => ?_) (fun hg => ?_) | refine ogP0 rfl rfl rfl (fun hg => ?_) (fun hg => ?_)
  all_goals try simp only [s1, s2, s3, s4, s5, s6, s7, s8, s9, s10, s11, s12] at hg
  all_goals first | (refine oM rfl rfl ?_) | skip
  all_goals first | refine oT rfl rfl ?_ | refine o1 rfl rfl rfl ?_ | refine o0 rfl rfl rfl ?_ | refine ogP1 rfl rfl rfl (fun hg => ?_) (fun hg => ?_) | refine ogP0 rfl rfl rfl (fun hg => ?_) (fun hg => ?_)
  all_goals try simp only [s1, s2, s3, s4, s5, s6, s7, s8, s9, s10, s11, s12] at hg
  all_goals first | refine oQ (Q_binu rfl rfl rfl (by omega)) rfl rfl ?_ | refine oQ (Q_bin rfl rfl rfl) rfl rfl ?_ | skip
  all_goals first | refine oT rfl rfl ?_ | refine o1 rfl rfl rfl ?_ | refine o0 rfl rfl rfl ?_ | refine ogP1 rfl rfl rfl (fun hg => ?_) (fun hg => ?_) | refine ogP0 rfl rfl rfl (fun hg => ?_) (fun hg => ?_)
  all_goals try simp only [s1, s2, s3, s4, s5, s6, s7, s8, s9, s10, s11, s12] at hg
  all_goals first | (refine oQ (Q_call0 (hrc) rfl rfl rfl) rfl rfl ?_) | skip
  all_goals first | refine oT rfl rfl ?_ | refine o1 rfl rfl rfl ?_ | refine o0 rfl rfl rfl ?_ | refine ogP1 rfl rfl rfl (fun hg => ?_) (fun hg => ?_) | refine ogP0 rfl rfl rfl (fun hg => ?_) (fun hg => ?_)
  all_goals try simp only [s1, s2, s3, s4, s5, s6, s7, s8, s9, s10, s11, s12] at hg
  all_goals first | (refine oQ (Q_not rfl) rfl rfl ?_) | skip
  all_goals first | refine oQ (Q_pick_t rfl (by with_reducible rfl) rfl rfl) rfl rfl ?_ | refine oQ (Q_pick_f rfl (by with_reducible rfl) rfl rfl) rfl rfl ?_
  all_goals refine oN ?_
  all_goals (
   first | refine cT rfl ?_ | refine cF rfl ?_ | refine CW_cond rfl (fun hc => ?_) (fun hc => ?_)
   all_goals try simp only [s1, s2, s3, s4, s5, s6, s7, s8, s9, s10, s11, s12] at hc
   all_goals try (exfalso; first | exact absurd trivial hc | (simp at hc; done) | (simp at hg; done); done)
   all_goals first
     | (
      refine CW_skip ?_)
     | (
      refine cR ?_
      iterate 2 refine oA rfl rfl ?_
      refine oN ?_
      refine CW_ret ?_))
  all_goals first
    | with_reducible refine tR ?_
    | with_reducible refine tE ?_
    | (
     with_reducible refine tN ?_
     refine cR ?_
     iterate 2 refine oM rfl rfl ?_
     refine oCall (l01Points_con p hpB) [] 1 rfl rfl (Fits.mk' vHn rfl rfl (by simp)) rfl rfl ?_
     rintro r H1 ⟨k0, sp0, hk0, hsp0, rfl, rfl⟩
     refine ⟨.slice 0 0 (allPts p).length k0, [(0, .ints 49 ((allPts p).flatten ++ sp0))], rfl, rfl, rfl, ?_⟩
     refine oM rfl rfl ?_
     refine oQ (Q_ixs0z 3 rfl rfl rfl rfl rfl rfl (by omega)) rfl rfl ?_
     refine oQ (Q_lda (n := 3) rfl rfl rfl rfl rfl (by rw [List.length_append, hfa]; omega)) rfl rfl ?_; rw [flat_get h3a hkl]
     refine oBsl1 ha3 rfl rfl rfl rfl rfl rfl rfl rfl rfl rfl ?_
     (have hl7 := l07Complete_con p [(allPts p).getD kn []] [] 1 (by simpa using ha3) hpB (ok_one ha) (pl_one _))
     rw [show [(allPts p).getD kn []].flatten ++ [] = (allPts p).getD kn [] by simp] at hl7
     refine oCall (hl7) [(0, 1)] 2 rfl rfl (Fits.mk' (vHc rfl vHn) rfl rfl (by simp)) rfl rfl ?_
     rintro r H1 ⟨k9, sp9, hk9, hs9, rfl, rfl⟩
     rw [show comS p [(allPts p).getD kn []] = greV p (kn : Int) from com_set (ok_one ha) (pl_one _)] at hk9 hs9 ⊢
     refine ⟨.slice 3 0 (greV p (kn : Int)).length k9, [(1, .ints 49 ((allPts p).getD kn [])), (3, .ints 49 ((greV p (kn : Int)).flatten ++ sp9))], rfl, rfl, rfl, ?_⟩
     iterate 2 refine oA rfl rfl ?_
     refine oN ?_
     refine CW_ret ?_)
  all_goals (
   first | (exfalso; exact absurd hg (by decide)) | (exfalso; simp at hc; done) | exact exitH (r0 := .tuple [.slice 0 0 (greV p (kn : Int)).length k9, .int 0]) (H0 := [(0, .ints 49 ((greV p (kn : Int)).flatten ++ sp9))]) (.inr rfl) [(0, 3)] 1 (.cons (.tmp rfl rfl) (.cons (.tmp rfl rfl) .nil)) rfl rfl rfl (vHc rfl vHn) rfl rfl (listR_ok hcd hk9 hs9 rfl rfl))
theorem spec_GreedyArc_c (p k : Int) (hpB : primeB p = true) (hk : ¬ (0 ≤ k ∧ k ≤ p * p + p)) : Con Try.prog [] 47 [.int p, .int k] [] (listR 3 49 [] 0 (greC p k) (greV p k)) := by
  have hb := prime_bd hpB
  have hpp : 9 ≤ p * p ∧ p * p ≤ 169 := by rcases prime_cases hpB with rfl | rfl | rfl | rfl | rfl <;> decide
  have hpc := l01Prime_con p
  rw [hpB] at hpc
  have hcd : ¬ greC p k = 0 := fun h => hk (greC_zero h).2
  have hcv : greC p k = 2 := if_neg (fun h => hk h.2)
  have hrc := l01In_con k 0 (p * p + p)
  rw [show (decide (0 ≤ k) && decide (k ≤ p * p + p)) = false by rw [Bool.eq_false_iff]; intro h; rw [Bool.and_eq_true, decide_eq_true_eq, decide_eq_true_eq] at h; exact hk h] at hrc
  refine conW tab_ok [(0, .int p), (1, .int k)] 0 [] [] Try.func47 rfl rfl rfl rfl rfl rfl rfl rfl rfl ?_
  refine cR ?_
  iterate 2 refine oA rfl rfl ?_
  refine oN ?_
  refine CW_seq ?_
  refine cR ?_
  refine oM rfl rfl ?_
  refine oQ (Q_call0 (hpc) rfl rfl rfl) rfl rfl ?_
  refine oQ (Q_not rfl) rfl rfl ?_
  refine oM rfl rfl ?_
  all_goals first | refine oT rfl rfl ?_ | refine o1 rfl rfl rfl ?_ | refine o0 rfl rfl rfl ?_ | refine ogP1 rfl rfl rfl (fun hg => ?_) (fun hg => ?_) | refine ogP0 rfl rfl rfl (fun hg => ?_) (fun hg => ?_)
  all_goals try simp only [s1, s2, s3, s4, s5, s6, s7, s8, s9, s10, s11, s12] at hg
  all_goals first | (refine oM rfl rfl ?_) | skip
  all_goals first | refine oT rfl rfl ?_ | refine o1 rfl rfl rfl ?_ | refine o0 rfl rfl rfl ?_ | refine ogP1 rfl rfl rfl (fun hg => ?_) (fun hg => ?_) | refine ogP0 rfl rfl rfl (fun hg => ?_) (fun hg => ?_)
  all_goals try simp only [s1, s2, s3, s4, s5, s6, s7, s8, s9, s10, s11, s12] at hg
  all_goals first | (refine oM rfl rfl ?_) | skip
  all_goals first | refine oT rfl rfl ?_ | refine o1 rfl rfl rfl ?_ | refine o0 rfl rfl rfl ?_ | refine ogP1 rfl rfl rfl (fun hg => ?_) (fun hg => ?_) | refine ogP0 rfl rfl rfl (fun hg => ?_) (fun hg => ?_)
  all_goals try simp only [s1, s2, s3, s4, s5, s6, s7, s8, s9, s10, s11, s12] at hg
  all_goals first | (refine oM rfl rfl ?_) | skip
  all_goals first | refine oT rfl rfl ?_ | refine o1 rfl rfl rfl ?_ | refine o0 rfl rfl rfl ?_ | refine ogP1 rfl rfl rfl (fun hg => ?_) (fun hg => ?_) | refine ogP0 rfl rfl rfl (fun hg => ?_) (fun hg => ?_)
  all_goals try simp only [s1, s2, s3, s4, s5, s6, s7, s8, s9, s10, s11, s12] at hg
  all_goals first | refine oQ (Q_binu rfl rfl rfl (by omega)) rfl rfl ?_ | refine oQ (Q_bin rfl rfl rfl) rfl rfl ?_ | skip
  all_goals first | refine oT rfl rfl ?_ | refine o1 rfl rfl rfl ?_ | refine o0 rfl rfl rfl ?_ | refine ogP1 rfl rfl rfl (fun hg => ?_) (fun hg => ?_) | refine ogP0 rfl rfl rfl (fun hg => ?_) (fun hg => ?_)
  all_goals try simp only [s1, s2, s3, s4, s5, s6, s7, s8, s9, s10, s11, s12] at hg
  all_goals first | (refine oM rfl rfl ?_) | skip
  all_goals first | refine oT rfl rfl ?_ | refine o1 rfl rfl rfl ?_ | refine o0 rfl rfl rfl ?_ | refine ogP1 rfl rfl rfl (fun hg => ?_) (fun hg => ?_) | refine ogP0 rfl rfl rfl (fun hg => ?_) (fun hg => ?_)
  all_goals try simp only [s1, s2, s3, s4, s5, s6, s7, s8, s9, s10, s11, s12] at hg
  all_goals first | refine oQ (Q_binu rfl rfl rfl (by omega)) rfl rfl ?_ | refine oQ (Q_bin rfl rfl rfl) rfl rfl ?_ | skip
  all_goals first | refine oT rfl rfl ?_ | refine o1 rfl rfl rfl ?_ | refine o0 rfl rfl rfl ?_ | refine ogP1 rfl rfl rfl (fun hg => ?_) (fun hg => ?_) | refine ogP0 rfl rfl rfl (fun hg => ?_) (fun hg => ?_)
  all_goals try simp only [s1, s2, s3, s4, s5, s6, s7, s8, s9, s10, s11, s12] at hg
  all_goals first | (refine oQ (Q_call0 (hrc) rfl rfl rfl) rfl rfl ?_) | skip
  all_goals first | refine oT rfl rfl ?_ | refine o1 rfl rfl rfl ?_ | refine o0 rfl rfl rfl ?_ | refine ogP1 rfl rfl rfl (fun hg => ?_) (fun hg => ?_) | refine ogP0 rfl rfl rfl (fun hg => ?_) (fun hg => ?_)
  all_goals try simp only [s1, s2, s3, s4, s5, s6, s7, s8, s9, s10, s11, s12] at hg
  all_goals first | (refine oQ (Q_not rfl) rfl rfl ?_) | skip
  all_goals first | refine oQ (Q_pick_t rfl (by with_reducible rfl) rfl rfl) rfl rfl ?_ | refine oQ (Q_pick_f rfl (by with_reducible rfl) rfl rfl) rfl rfl ?_
  all_goals refine oN ?_
  all_goals (
   first | refine cT rfl ?_ | refine cF rfl ?_ | refine CW_cond rfl (fun hc => ?_) (fun hc => ?_)
   all_goals try simp only [s1, s2, s3, s4, s5, s6, s7, s8, s9, s10, s11, s12] at hc
   all_goals try (exfalso; first | exact absurd trivial hc | (simp at hc; done) | (simp at hg; done); done)
   all_goals first
     | (
      refine CW_skip ?_)
     | (
      refine cR ?_
      iterate 2 refine oA rfl rfl ?_
      refine oN ?_
      refine CW_ret ?_))
  all_goals first
    | with_reducible refine tR ?_
    | with_reducible refine tE ?_
    | (
     with_reducible refine tN ?_
     refine cR ?_
     iterate 2 refine oM rfl rfl ?_
     (exfalso; simp at hc; done)
     refine oM rfl rfl ?_
     first | refine oQ (Q_ixs0z 3 rfl rfl rfl rfl rfl rfl (by first | omega | (dsimp only; omega) | (simp; omega) | (simp; done))) rfl rfl ?_ | refine oQ (Q_ixsz 3 rfl rfl rfl rfl rfl rfl (by first | omega | (dsimp only; omega) | (simp; omega) | (simp; done))) rfl rfl ?_
     first | refine oQ (Lw rfl rfl rfl rfl) rfl rfl ?_ | refine oQ (La rfl rfl rfl rfl rfl) rfl rfl ?_
     refine oBsl rfl rfl rfl rfl (.inr ⟨rfl, rfl, by decide⟩) rfl rfl rfl rfl rfl rfl ?_
     (exfalso; simp at hc; done)
     iterate 2 refine oA rfl rfl ?_
     refine oN ?_
     refine CW_ret ?_)
  all_goals (
   first | (exfalso; exact absurd hg (by decide)) | (exfalso; simp at hc; done) | exact exitH (r0 := .tuple [.nilsl, .int 2]) (H0 := []) (.inr rfl) [] 0 (.cons (.tmp rfl rfl) (.cons (.tmp rfl rfl) .nil)) rfl rfl rfl vHn rfl rfl (listR_no hcd (by rw [hcv]) rfl))
theorem spec_GreedyArc_con (p k : Int) : Con Try.prog [] 47 [.int p, .int k] [] (listR 3 49 [] 0 (greC p k) (greV p k)) := by
  cases hpB : primeB p
  · exact spec_GreedyArc_a p k hpB
  · by_cases hk : 0 ≤ k ∧ k ≤ p * p + p
    · obtain ⟨kn, rfl⟩ : ∃ kn : Nat, k = (kn : Int) := ⟨k.toNat, by omega⟩
      exact spec_GreedyArc_b p kn hpB hk.2
    · exact spec_GreedyArc_c p k hpB hk
end Go.Proofs.Ytmcmbpoebhjecaa
