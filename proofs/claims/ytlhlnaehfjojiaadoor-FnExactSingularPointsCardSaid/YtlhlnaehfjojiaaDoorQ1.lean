/- All points of a plane, on both sides. -/
import Derived.Test.YtlhlnaehfjojiaaDoorP1
import Derived.Test.YtlhlnaehfjojiaaDoorPq
namespace Go.Proofs.YtlhlnaehfjojiaaDoor
attribute [local irreducible] CW OW QW QOp Con thenP inBlockP
set_option maxRecDepth 10000
set_option linter.unusedSimpArgs false
set_option linter.unusedVariables false
def row1 (n : Nat) : List (List Int) := (List.range n).map fun (z : Nat) => [0, 1, (z : Int)]
def row2 (y n : Nat) : List (List Int) := (List.range n).map fun (z : Nat) => [1, (y : Int), (z : Int)]
def rows2 (n m : Nat) : List (List Int) := (List.range m).flatMap fun y => row2 y n
def allPts (p : Int) : List (List Int) := [[0, 0, 1]] ++ row1 p.toNat ++ rows2 p.toNat p.toNat
theorem row1_snoc (n : Nat) : row1 (n + 1) = row1 n ++ [[0, 1, (n : Int)]] := by simp [row1, List.range_succ]
theorem row2_snoc (y n : Nat) : row2 y (n + 1) = row2 y n ++ [[1, (y : Int), (n : Int)]] := by simp [row2, List.range_succ]
theorem rows2_snoc (n m : Nat) : rows2 n (m + 1) = rows2 n m ++ row2 m n := by simp [rows2, List.range_succ]
theorem row1_length (n : Nat) : (row1 n).length = n := by simp [row1]
theorem row2_length (y n : Nat) : (row2 y n).length = n := by simp [row2]
theorem rows2_length (n m : Nat) : (rows2 n m).length = m * n := by
  induction m with
  | zero => simp [rows2]
  | succ m ih => rw [rows2_snoc, List.length_append, ih, row2_length, Nat.add_mul, Nat.one_mul]
theorem allPts_three {p : Int} {x : List Int} (h : x ∈ allPts p) : x.length = 3 := by
  simp only [allPts, row1, rows2, row2, List.mem_append, List.mem_map, List.mem_flatMap, List.mem_singleton] at h
  rcases h with (rfl | ⟨_, _, rfl⟩) | ⟨_, _, _, _, rfl⟩ <;> rfl
/-- an own row of arrays: the told ones, and room behind them -/
def ownR (sz : Nat) (T : TypeId) (H0 : Hp) (b : Nat) (L : List (List Int)) (r : V) (H' : Hp) : Prop :=
  ∃ (k : Nat) (sp : List Int), L.length ≤ k ∧ k * sz ≤ L.length * sz + sp.length ∧ r = .slice b 0 L.length k ∧ H' = H0 ++ [(b, .ints T (L.flatten ++ sp))]
def ptsTo (n y z : Nat) : List (List Int) := [[0, 0, 1]] ++ row1 n ++ rows2 n y ++ row2 y z
theorem ptsTo_next (n y z : Nat) : ptsTo n y (z + 1) = ptsTo n y z ++ [[1, (y : Int), (z : Int)]] := by simp [ptsTo, row2_snoc]
theorem ptsTo_row (n y : Nat) : ptsTo n y n = ptsTo n (y + 1) 0 := by simp [ptsTo, rows2_snoc]; simp [row2]
theorem ptsTo_start (n : Nat) : [[0, 0, 1]] ++ row1 n = ptsTo n 0 0 := by simp [ptsTo, rows2, row2]
theorem ptsTo_all {p : Int} {n : Nat} (h : p = (n : Int)) : ptsTo n n 0 = allPts p := by subst h; simp [ptsTo, allPts, row2]
theorem ptsTo_three {n y z : Nat} {x : List Int} (h : x ∈ ptsTo n y z) : x.length = 3 := by
  simp only [ptsTo, row1, rows2, row2, List.mem_append, List.mem_map, List.mem_flatMap, List.mem_singleton] at h
  rcases h with ((rfl | ⟨_, _, rfl⟩) | ⟨_, _, _, _, rfl⟩) | ⟨_, _, rfl⟩ <;> rfl
theorem row1_three {n : Nat} {x : List Int} (h : x ∈ [[0, 0, 1]] ++ row1 n) : x.length = 3 := by
  simp only [row1, List.mem_append, List.mem_map, List.mem_singleton] at h
  rcases h with rfl | ⟨_, _, rfl⟩ <;> rfl
theorem ptsTo_length (n y z : Nat) : (ptsTo n y z).length = 1 + n + y * n + z := by simp [ptsTo, row1_length, rows2_length, row2_length]; omega
theorem sq_bound {n y : Nat} (hn : n ≤ 13) (hy : y ≤ n) : y * n ≤ 169 := Nat.le_trans (Nat.mul_le_mul hy hn) (Nat.mul_le_mul hn (Nat.le_refl 13))

theorem allPoints_n (n : Nat) (hn : n ≤ 13) : Con Tryd.prog [] 85 [.int (n : Int)] [] (ownR 3 35 [] 0 (ptsTo n n 0)) := by
  refine conW tab_ok [(0, .int (n : Int))] 0 [] [] Tryd.func85 rfl rfl rfl rfl rfl rfl rfl rfl rfl ?_
  refine cR ?_
  refine oA rfl rfl ?_
  refine oN ?_
  refine cR ?_
  refine oQ (Q_build rfl rfl rfl rfl rfl rfl rfl rfl) rfl rfl ?_
  refine oBsl rfl rfl rfl rfl (.inr ⟨rfl, rfl, by decide⟩) rfl rfl rfl rfl rfl rfl ?_
  refine oA rfl rfl ?_
  refine oN ?_
  refine CW_seq ?_
  refine cR ?_
  iterate 2 refine oM rfl rfl ?_
  refine oN ?_
  refine CW_block ?_
  refine CW_loop (ι := Nat × Nat × List Int) (fun x => x.1 ≤ n ∧ 1 + x.1 ≤ x.2.1 ∧ x.2.1 * 3 ≤ (1 + x.1) * 3 + x.2.2.length) (fun x => ⟨[(0, .int (n : Int)), (3, .slice 0 0 (1 + x.1) x.2.1), (10, .int (x.1 : Int)), (9, .int (n : Int))], [(0, .ints 35 (([[0, 0, 1]] ++ row1 x.1).flatten ++ x.2.2))], 1⟩) (fun x => n - x.1) (0, 1, []) ?_ ?_ ?_
  · first | trivial | omega | (simp; done) | (simp; omega)
  · refine View.mk' [] rfl rfl rfl ?_ ?_
    repeat' first | exact vFn | refine vFc rfl ?_ | exact vHn | refine vHc rfl ?_ | refine vFc (congrArg (fun z => some (V.int z)) ?_) ?_ | refine vHc (congrArg (fun z => some (Blk.ints _ z)) ?_) ?_ | refine vFc (congrArg (fun z => some (V.bool z)) ?_) ?_ | refine vFs rfl rfl ?_ ?_
    skip
  rintro ⟨i, k, sp⟩ ⟨hi, hk, hsp⟩
  dsimp only at hi hk hsp ⊢
  have hlen : ([[0, 0, 1]] ++ row1 i).flatten.length = (1 + i) * 3 := by rw [flat3 (sz := 3) (fun x hx => row1_three hx)]; simp [row1_length]; omega
  refine cR ?_
  refine oQ (Q_bin rfl rfl rfl) rfl rfl ?_
  refine oN ?_
  refine CW_seq ?_
  first | refine cT rfl ?_ | refine cF rfl ?_ | refine CW_cond rfl (fun hc => ?_) (fun hc => ?_)
  all_goals try simp only [s1, s2, s3, s4, s5, s6, s7, s8, s9, s10, s11, s12] at hc
  all_goals first
    | (
     refine CW_skip ?_)
    | (
     refine CW_exit ?_)
  all_goals first
    | with_reducible refine tR ?_
    | with_reducible refine tE ?_
    | (
     with_reducible refine tN ?_
     refine CW_seq ?_
     refine CW_block ?_
     refine cR ?_
     refine oM rfl rfl ?_
     refine oA rfl rfl ?_
     refine oN ?_
     refine CW_region ?_
     iterate 2 refine oM rfl rfl ?_
     refine oQ (Q_build rfl rfl rfl rfl rfl rfl rfl rfl) rfl rfl ?_
     refine oBsl rfl rfl rfl rfl (.inr ⟨rfl, rfl, by decide⟩) rfl rfl rfl rfl rfl rfl ?_
     refine oApp (sz := 3) (by_ := 24) (xl := [0, 1, (i : Int)]) rfl rfl rfl rfl rfl rfl ⟨by decide, rfl, .inr rfl⟩ rfl rfl rfl rfl rfl rfl hlen rfl (by omega) (by omega) (by omega) (by omega) rfl rfl (fun k2 sp2 h1 h2 => ?_)
     refine oA rfl rfl ?_
     refine OW_nil ?_
     all_goals first | with_reducible refine bN ?_ | with_reducible refine bE ?_ | with_reducible refine bR ?_ | refine bX rfl ?_
     all_goals with_reducible refine tN ?_
     all_goals (
      refine CW_region ?_
      first | refine oQ (Q_binu rfl rfl rfl (by omega)) rfl rfl ?_ | refine oQ (Q_bin rfl rfl rfl) rfl rfl ?_
      refine oM rfl rfl ?_
      refine OW_nil ?_))
  all_goals first
    | with_reducible refine tR ?_
    | with_reducible refine tE ?_
    | (
     with_reducible refine tN ?_
     refine ⟨(i + 1, k2, sp2), ?_, ?_, View.mk' [(0, 2)] rfl rfl rfl ?_ ?_⟩
     · exact ⟨by omega, by omega, by omega⟩
     · omega
     all_goals (repeat' first | exact vFn | refine vFc rfl ?_ | exact vHn | refine vHc rfl ?_ | refine vFc (congrArg (fun z => some (V.int z)) ?_) ?_ | refine vHc (congrArg (fun z => some (Blk.ints _ z)) ?_) ?_ | refine vFc (congrArg (fun z => some (V.bool z)) ?_) ?_ | refine vFs rfl rfl ?_ ?_)
     all_goals first | (rw [row1_snoc]; simp; done) | fail
     all_goals simp)
  all_goals first | with_reducible refine bN ?_ | with_reducible refine bE ?_ | with_reducible refine bR ?_ | refine bX rfl ?_
  all_goals with_reducible refine tN ?_
  all_goals (
   refine CW_seq ?_
   refine cR ?_
   iterate 2 refine oM rfl rfl ?_
   refine oN ?_
   refine CW_block ?_
   refine CW_loop (ι := Nat × Nat × List Int) (fun x => x.1 ≤ n ∧ (ptsTo n x.1 0).length ≤ x.2.1 ∧ x.2.1 * 3 ≤ (ptsTo n x.1 0).length * 3 + x.2.2.length) (fun x => ⟨[(0, .int (n : Int)), (3, .slice 0 0 (ptsTo n x.1 0).length x.2.1), (20, .int (x.1 : Int)), (19, .int (n : Int))], [(0, .ints 35 ((ptsTo n x.1 0).flatten ++ x.2.2))], 1⟩) (fun x => n - x.1) (0, k, sp) ?_ ?_ ?_
   · (have e : i = n := by omega); subst e; simp only [ptsTo_length]; exact ⟨Nat.zero_le _, by omega, by omega⟩
   · refine View.mk' [] rfl rfl rfl ?_ ?_
     repeat' first | exact vFn | refine vFc rfl ?_ | exact vHn | refine vHc rfl ?_ | refine vFc (congrArg (fun z => some (V.int z)) ?_) ?_ | refine vHc (congrArg (fun z => some (Blk.ints _ z)) ?_) ?_ | refine vFc (congrArg (fun z => some (V.bool z)) ?_) ?_ | refine vFs rfl rfl ?_ ?_
     all_goals (have e : i = n := by omega)
     all_goals subst e
     all_goals first | (rw [ptsTo_length]; omega) | (rw [← ptsTo_start])
   rintro ⟨y, k, sp⟩ ⟨hy, hk, hsp⟩
   dsimp only at hy hk hsp ⊢
   have hq := sq_bound hn hy
   refine cR ?_
   refine oQ (Q_bin rfl rfl rfl) rfl rfl ?_
   refine oN ?_
   refine CW_seq ?_
   first | refine cT rfl ?_ | refine cF rfl ?_ | refine CW_cond rfl (fun hc => ?_) (fun hc => ?_)
   all_goals try simp only [s1, s2, s3, s4, s5, s6, s7, s8, s9, s10, s11, s12] at hc
   all_goals first
     | (
      refine CW_skip ?_)
     | (
      refine CW_exit ?_)
   all_goals first
     | with_reducible refine tR ?_
     | with_reducible refine tE ?_
     | (
      with_reducible refine tN ?_
      refine CW_seq ?_
      refine CW_block ?_
      refine cR ?_
      refine oM rfl rfl ?_
      refine oA rfl rfl ?_
      refine oN ?_
      refine cR ?_
      iterate 2 refine oM rfl rfl ?_
      refine oN ?_
      refine CW_block ?_
      refine CW_loop (ι := Nat × Nat × List Int) (fun x => x.1 ≤ n ∧ (ptsTo n y x.1).length ≤ x.2.1 ∧ x.2.1 * 3 ≤ (ptsTo n y x.1).length * 3 + x.2.2.length) (fun x => ⟨[(0, .int (n : Int)), (3, .slice 0 0 (ptsTo n y x.1).length x.2.1), (5, .int (y : Int)), (24, .int (x.1 : Int)), (19, .int (n : Int)), (20, .int (y : Int)), (23, .int (n : Int))], [(0, .ints 35 ((ptsTo n y x.1).flatten ++ x.2.2))], 1⟩) (fun x => n - x.1) (0, k, sp) ?_ ?_ ?_
      · exact ⟨Nat.zero_le _, hk, hsp⟩
      · refine View.mk' [] rfl rfl rfl ?_ ?_
        repeat' first | exact vFn | refine vFc rfl ?_ | exact vHn | refine vHc rfl ?_ | refine vFc (congrArg (fun z => some (V.int z)) ?_) ?_ | refine vHc (congrArg (fun z => some (Blk.ints _ z)) ?_) ?_ | refine vFc (congrArg (fun z => some (V.bool z)) ?_) ?_ | refine vFs rfl rfl ?_ ?_
      rintro ⟨z, k, sp⟩ ⟨hz, hk, hsp⟩
      dsimp only at hz hk hsp ⊢
      have hl2 := ptsTo_length n y z
      have hlen := flat3 (sz := 3) (L := ptsTo n y z) (fun x hx => ptsTo_three hx)
      refine cR ?_
      refine oQ (Q_bin rfl rfl rfl) rfl rfl ?_
      refine oN ?_
      refine CW_seq ?_
      first | refine cT rfl ?_ | refine cF rfl ?_ | refine CW_cond rfl (fun hc => ?_) (fun hc => ?_)
      all_goals try simp only [s1, s2, s3, s4, s5, s6, s7, s8, s9, s10, s11, s12] at hc
      all_goals first
        | (
         refine CW_skip ?_)
        | (
         refine CW_exit ?_)
      all_goals first
        | with_reducible refine tR ?_
        | with_reducible refine tE ?_
        | (
         with_reducible refine tN ?_
         refine CW_seq ?_
         refine CW_block ?_
         refine cR ?_
         refine oM rfl rfl ?_
         refine oA rfl rfl ?_
         refine oN ?_
         refine CW_region ?_
         iterate 3 refine oM rfl rfl ?_
         refine oQ (Q_build rfl rfl rfl rfl rfl rfl rfl rfl) rfl rfl ?_
         refine oBsl rfl rfl rfl rfl (.inr ⟨rfl, rfl, by decide⟩) rfl rfl rfl rfl rfl rfl ?_
         refine oApp (sz := 3) (by_ := 24) (xl := [1, (y : Int), (z : Int)]) rfl rfl rfl rfl rfl rfl ⟨by decide, rfl, .inr rfl⟩ rfl rfl rfl rfl rfl rfl hlen rfl (by omega) (by omega) (by omega) (by omega) rfl rfl (fun k2 sp2 h1 h2 => ?_)
         refine oA rfl rfl ?_
         refine OW_nil ?_
         all_goals first | with_reducible refine bN ?_ | with_reducible refine bE ?_ | with_reducible refine bR ?_ | refine bX rfl ?_
         all_goals with_reducible refine tN ?_
         all_goals (
          refine CW_region ?_
          first | refine oQ (Q_binu rfl rfl rfl (by omega)) rfl rfl ?_ | refine oQ (Q_bin rfl rfl rfl) rfl rfl ?_
          refine oM rfl rfl ?_
          refine OW_nil ?_))
      all_goals first
        | with_reducible refine tR ?_
        | with_reducible refine tE ?_
        | (
         with_reducible refine tN ?_
         refine ⟨(z + 1, k2, sp2), ?_, ?_, View.mk' [(0, 2)] rfl rfl rfl ?_ ?_⟩
         · rw [ptsTo_length] at h1 h2 ⊢; exact ⟨by omega, by dsimp only; omega, by dsimp only; omega⟩
         · omega
         all_goals (repeat' first | exact vFn | refine vFc rfl ?_ | exact vHn | refine vHc rfl ?_ | refine vFc (congrArg (fun z => some (V.int z)) ?_) ?_ | refine vHc (congrArg (fun z => some (Blk.ints _ z)) ?_) ?_ | refine vFc (congrArg (fun z => some (V.bool z)) ?_) ?_ | refine vFs rfl rfl ?_ ?_)
         all_goals rw [ptsTo_next]
         all_goals simp)
      all_goals first | with_reducible refine bN ?_ | with_reducible refine bE ?_ | with_reducible refine bR ?_ | refine bX rfl ?_
      all_goals first | with_reducible refine bN ?_ | with_reducible refine bE ?_ | with_reducible refine bR ?_ | refine bX rfl ?_
      all_goals with_reducible refine tN ?_
      all_goals (
       refine CW_region ?_
       first | refine oQ (Q_binu rfl rfl rfl (by omega)) rfl rfl ?_ | refine oQ (Q_bin rfl rfl rfl) rfl rfl ?_
       refine oM rfl rfl ?_
       refine OW_nil ?_))
   all_goals first
     | with_reducible refine tR ?_
     | with_reducible refine tE ?_
     | (
      with_reducible refine tN ?_
      refine ⟨(y + 1, k, sp), ?_, ?_, View.mk' [] rfl rfl rfl ?_ ?_⟩
      · (have e : z = n := by omega); subst e; dsimp only; rw [← ptsTo_row]; exact ⟨by omega, hk, hsp⟩
      · omega
      all_goals (repeat' first | exact vFn | refine vFc rfl ?_ | exact vHn | refine vHc rfl ?_ | refine vFc (congrArg (fun z => some (V.int z)) ?_) ?_ | refine vHc (congrArg (fun z => some (Blk.ints _ z)) ?_) ?_ | refine vFc (congrArg (fun z => some (V.bool z)) ?_) ?_ | refine vFs rfl rfl ?_ ?_)
      all_goals (have e : z = n := by omega)
      all_goals subst e
      all_goals rw [ptsTo_row])
   all_goals first | with_reducible refine bN ?_ | with_reducible refine bE ?_ | with_reducible refine bR ?_ | refine bX rfl ?_
   all_goals with_reducible refine tN ?_
   all_goals (
    refine cR ?_
    refine oM rfl rfl ?_
    refine oA rfl rfl ?_
    refine oN ?_
    refine CW_ret ?_))
  all_goals (
   have e : y = n := by omega
   subst e
   exact exitH (.inr rfl) [] 1 (.cons (.tmp rfl rfl) .nil) rfl rfl rfl (vHc rfl vHn) rfl rfl ⟨k, sp, hk, hsp, rfl, rfl⟩)
theorem l01Points_n (n : Nat) (hn : n ≤ 13) : Con Tryd.prog [] 80 [.int (n : Int)] [] (ownR 3 35 [] 0 (ptsTo n n 0)) := by
  refine conW tab_ok [(0, .int (n : Int))] 0 [] [] Tryd.func80 rfl rfl rfl rfl rfl rfl rfl rfl rfl ?_
  refine cR ?_
  refine oA rfl rfl ?_
  refine oN ?_
  refine cR ?_
  refine oQ (Q_build rfl rfl rfl rfl rfl rfl rfl rfl) rfl rfl ?_
  refine oBsl rfl rfl rfl rfl (.inr ⟨rfl, rfl, by decide⟩) rfl rfl rfl rfl rfl rfl ?_
  refine oA rfl rfl ?_
  refine oN ?_
  refine CW_seq ?_
  refine cR ?_
  refine oA rfl rfl ?_
  refine oN ?_
  refine CW_block ?_
  refine CW_loop (ι := Nat × Nat × List Int) (fun x => x.1 ≤ n ∧ 1 + x.1 ≤ x.2.1 ∧ x.2.1 * 3 ≤ (1 + x.1) * 3 + x.2.2.length) (fun x => ⟨[(0, .int (n : Int)), (3, .slice 0 0 (1 + x.1) x.2.1), (4, .int (x.1 : Int))], [(0, .ints 35 (([[0, 0, 1]] ++ row1 x.1).flatten ++ x.2.2))], 1⟩) (fun x => n - x.1) (0, 1, []) ?_ ?_ ?_
  · first | trivial | omega | (simp; done) | (simp; omega)
  · refine View.mk' [] rfl rfl rfl ?_ ?_
    repeat' first | exact vFn | refine vFc rfl ?_ | exact vHn | refine vHc rfl ?_ | refine vFc (congrArg (fun z => some (V.int z)) ?_) ?_ | refine vHc (congrArg (fun z => some (Blk.ints _ z)) ?_) ?_ | refine vFc (congrArg (fun z => some (V.bool z)) ?_) ?_ | refine vFs rfl rfl ?_ ?_
    skip
  rintro ⟨i, k, sp⟩ ⟨hi, hk, hsp⟩
  dsimp only at hi hk hsp ⊢
  have hlen : ([[0, 0, 1]] ++ row1 i).flatten.length = (1 + i) * 3 := by rw [flat3 (sz := 3) (fun x hx => row1_three hx)]; simp [row1_length]; omega
  refine CW_seq ?_
  refine cR ?_
  iterate 2 refine oM rfl rfl ?_
  refine oQ (Q_bin rfl rfl rfl) rfl rfl ?_
  refine oN ?_
  first | refine cT rfl ?_ | refine cF rfl ?_ | refine CW_cond rfl (fun hc => ?_) (fun hc => ?_)
  all_goals try simp only [s1, s2, s3, s4, s5, s6, s7, s8, s9, s10, s11, s12] at hc
  all_goals first
    | (
     refine CW_skip ?_)
    | (
     refine CW_exit ?_)
  all_goals first
    | with_reducible refine tR ?_
    | with_reducible refine tE ?_
    | (
     with_reducible refine tN ?_
     refine CW_seq ?_
     refine CW_block ?_
     refine CW_region ?_
     iterate 2 refine oM rfl rfl ?_
     refine oQ (Q_build rfl rfl rfl rfl rfl rfl rfl rfl) rfl rfl ?_
     refine oBsl rfl rfl rfl rfl (.inr ⟨rfl, rfl, by decide⟩) rfl rfl rfl rfl rfl rfl ?_
     refine oApp (sz := 3) (by_ := 24) (xl := [0, 1, (i : Int)]) rfl rfl rfl rfl rfl rfl ⟨by decide, rfl, .inr rfl⟩ rfl rfl rfl rfl rfl rfl hlen rfl (by omega) (by omega) (by omega) (by omega) rfl rfl (fun k2 sp2 h1 h2 => ?_)
     refine oA rfl rfl ?_
     refine OW_nil ?_
     all_goals first | with_reducible refine bN ?_ | with_reducible refine bE ?_ | with_reducible refine bR ?_ | refine bX rfl ?_
     all_goals with_reducible refine tN ?_
     all_goals (
      refine CW_region ?_
      refine oM rfl rfl ?_
      first | refine oQ (Q_binu rfl rfl rfl (by omega)) rfl rfl ?_ | refine oQ (Q_bin rfl rfl rfl) rfl rfl ?_
      refine oA rfl rfl ?_
      refine OW_nil ?_))
  all_goals first
    | with_reducible refine tR ?_
    | with_reducible refine tE ?_
    | (
     with_reducible refine tN ?_
     refine ⟨(i + 1, k2, sp2), ?_, ?_, View.mk' [(0, 2)] rfl rfl rfl ?_ ?_⟩
     · exact ⟨by omega, by omega, by omega⟩
     · omega
     all_goals (repeat' first | exact vFn | refine vFc rfl ?_ | exact vHn | refine vHc rfl ?_ | refine vFc (congrArg (fun z => some (V.int z)) ?_) ?_ | refine vHc (congrArg (fun z => some (Blk.ints _ z)) ?_) ?_ | refine vFc (congrArg (fun z => some (V.bool z)) ?_) ?_ | refine vFs rfl rfl ?_ ?_)
     all_goals first | (rw [row1_snoc]; simp; done) | fail
     all_goals simp)
  all_goals first | with_reducible refine bN ?_ | with_reducible refine bE ?_ | with_reducible refine bR ?_ | refine bX rfl ?_
  all_goals with_reducible refine tN ?_
  all_goals (
   refine CW_seq ?_
   refine cR ?_
   refine oA rfl rfl ?_
   refine oN ?_
   refine CW_block ?_
   refine CW_loop (ι := Nat × Nat × List Int) (fun x => x.1 ≤ n ∧ (ptsTo n x.1 0).length ≤ x.2.1 ∧ x.2.1 * 3 ≤ (ptsTo n x.1 0).length * 3 + x.2.2.length) (fun x => ⟨[(0, .int (n : Int)), (3, .slice 0 0 (ptsTo n x.1 0).length x.2.1), (5, .int (x.1 : Int))], [(0, .ints 35 ((ptsTo n x.1 0).flatten ++ x.2.2))], 1⟩) (fun x => n - x.1) (0, k, sp) ?_ ?_ ?_
   · (have e : i = n := by omega); subst e; simp only [ptsTo_length]; exact ⟨Nat.zero_le _, by omega, by omega⟩
   · refine View.mk' [] rfl rfl rfl ?_ ?_
     repeat' first | exact vFn | refine vFc rfl ?_ | exact vHn | refine vHc rfl ?_ | refine vFc (congrArg (fun z => some (V.int z)) ?_) ?_ | refine vHc (congrArg (fun z => some (Blk.ints _ z)) ?_) ?_ | refine vFc (congrArg (fun z => some (V.bool z)) ?_) ?_ | refine vFs rfl rfl ?_ ?_
     all_goals (have e : i = n := by omega)
     all_goals subst e
     all_goals first | (rw [ptsTo_length]; omega) | (rw [← ptsTo_start])
   rintro ⟨y, k, sp⟩ ⟨hy, hk, hsp⟩
   dsimp only at hy hk hsp ⊢
   have hq := sq_bound hn hy
   refine CW_seq ?_
   refine cR ?_
   iterate 2 refine oM rfl rfl ?_
   refine oQ (Q_bin rfl rfl rfl) rfl rfl ?_
   refine oN ?_
   first | refine cT rfl ?_ | refine cF rfl ?_ | refine CW_cond rfl (fun hc => ?_) (fun hc => ?_)
   all_goals try simp only [s1, s2, s3, s4, s5, s6, s7, s8, s9, s10, s11, s12] at hc
   all_goals first
     | (
      refine CW_skip ?_)
     | (
      refine CW_exit ?_)
   all_goals first
     | with_reducible refine tR ?_
     | with_reducible refine tE ?_
     | (
      with_reducible refine tN ?_
      refine CW_seq ?_
      refine CW_block ?_
      refine cR ?_
      refine oA rfl rfl ?_
      refine oN ?_
      refine CW_block ?_
      refine CW_loop (ι := Nat × Nat × List Int) (fun x => x.1 ≤ n ∧ (ptsTo n y x.1).length ≤ x.2.1 ∧ x.2.1 * 3 ≤ (ptsTo n y x.1).length * 3 + x.2.2.length) (fun x => ⟨[(0, .int (n : Int)), (3, .slice 0 0 (ptsTo n y x.1).length x.2.1), (5, .int (y : Int)), (6, .int (x.1 : Int))], [(0, .ints 35 ((ptsTo n y x.1).flatten ++ x.2.2))], 1⟩) (fun x => n - x.1) (0, k, sp) ?_ ?_ ?_
      · exact ⟨Nat.zero_le _, hk, hsp⟩
      · refine View.mk' [] rfl rfl rfl ?_ ?_
        repeat' first | exact vFn | refine vFc rfl ?_ | exact vHn | refine vHc rfl ?_ | refine vFc (congrArg (fun z => some (V.int z)) ?_) ?_ | refine vHc (congrArg (fun z => some (Blk.ints _ z)) ?_) ?_ | refine vFc (congrArg (fun z => some (V.bool z)) ?_) ?_ | refine vFs rfl rfl ?_ ?_
      rintro ⟨z, k, sp⟩ ⟨hz, hk, hsp⟩
      dsimp only at hz hk hsp ⊢
      have hl2 := ptsTo_length n y z
      have hlen := flat3 (sz := 3) (L := ptsTo n y z) (fun x hx => ptsTo_three hx)
      refine CW_seq ?_
      refine cR ?_
      iterate 2 refine oM rfl rfl ?_
      refine oQ (Q_bin rfl rfl rfl) rfl rfl ?_
      refine oN ?_
      first | refine cT rfl ?_ | refine cF rfl ?_ | refine CW_cond rfl (fun hc => ?_) (fun hc => ?_)
      all_goals try simp only [s1, s2, s3, s4, s5, s6, s7, s8, s9, s10, s11, s12] at hc
      all_goals first
        | (
         refine CW_skip ?_)
        | (
         refine CW_exit ?_)
      all_goals first
        | with_reducible refine tR ?_
        | with_reducible refine tE ?_
        | (
         with_reducible refine tN ?_
         refine CW_seq ?_
         refine CW_block ?_
         refine CW_region ?_
         iterate 3 refine oM rfl rfl ?_
         refine oQ (Q_build rfl rfl rfl rfl rfl rfl rfl rfl) rfl rfl ?_
         refine oBsl rfl rfl rfl rfl (.inr ⟨rfl, rfl, by decide⟩) rfl rfl rfl rfl rfl rfl ?_
         refine oApp (sz := 3) (by_ := 24) (xl := [1, (y : Int), (z : Int)]) rfl rfl rfl rfl rfl rfl ⟨by decide, rfl, .inr rfl⟩ rfl rfl rfl rfl rfl rfl hlen rfl (by omega) (by omega) (by omega) (by omega) rfl rfl (fun k2 sp2 h1 h2 => ?_)
         refine oA rfl rfl ?_
         refine OW_nil ?_
         all_goals first | with_reducible refine bN ?_ | with_reducible refine bE ?_ | with_reducible refine bR ?_ | refine bX rfl ?_
         all_goals with_reducible refine tN ?_
         all_goals (
          refine CW_region ?_
          refine oM rfl rfl ?_
          first | refine oQ (Q_binu rfl rfl rfl (by omega)) rfl rfl ?_ | refine oQ (Q_bin rfl rfl rfl) rfl rfl ?_
          refine oA rfl rfl ?_
          refine OW_nil ?_))
      all_goals first
        | with_reducible refine tR ?_
        | with_reducible refine tE ?_
        | (
         with_reducible refine tN ?_
         refine ⟨(z + 1, k2, sp2), ?_, ?_, View.mk' [(0, 2)] rfl rfl rfl ?_ ?_⟩
         · rw [ptsTo_length] at h1 h2 ⊢; exact ⟨by omega, by dsimp only; omega, by dsimp only; omega⟩
         · omega
         all_goals (repeat' first | exact vFn | refine vFc rfl ?_ | exact vHn | refine vHc rfl ?_ | refine vFc (congrArg (fun z => some (V.int z)) ?_) ?_ | refine vHc (congrArg (fun z => some (Blk.ints _ z)) ?_) ?_ | refine vFc (congrArg (fun z => some (V.bool z)) ?_) ?_ | refine vFs rfl rfl ?_ ?_)
         all_goals rw [ptsTo_next]
         all_goals simp)
      all_goals first | with_reducible refine bN ?_ | with_reducible refine bE ?_ | with_reducible refine bR ?_ | refine bX rfl ?_
      all_goals first | with_reducible refine bN ?_ | with_reducible refine bE ?_ | with_reducible refine bR ?_ | refine bX rfl ?_
      all_goals with_reducible refine tN ?_
      all_goals (
       refine CW_region ?_
       refine oM rfl rfl ?_
       first | refine oQ (Q_binu rfl rfl rfl (by omega)) rfl rfl ?_ | refine oQ (Q_bin rfl rfl rfl) rfl rfl ?_
       refine oA rfl rfl ?_
       refine OW_nil ?_))
   all_goals first
     | with_reducible refine tR ?_
     | with_reducible refine tE ?_
     | (
      with_reducible refine tN ?_
      refine ⟨(y + 1, k, sp), ?_, ?_, View.mk' [] rfl rfl rfl ?_ ?_⟩
      · (have e : z = n := by omega); subst e; dsimp only; rw [← ptsTo_row]; exact ⟨by omega, hk, hsp⟩
      · omega
      all_goals (repeat' first | exact vFn | refine vFc rfl ?_ | exact vHn | refine vHc rfl ?_ | refine vFc (congrArg (fun z => some (V.int z)) ?_) ?_ | refine vHc (congrArg (fun z => some (Blk.ints _ z)) ?_) ?_ | refine vFc (congrArg (fun z => some (V.bool z)) ?_) ?_ | refine vFs rfl rfl ?_ ?_)
      all_goals (have e : z = n := by omega)
      all_goals subst e
      all_goals rw [ptsTo_row])
   all_goals first | with_reducible refine bN ?_ | with_reducible refine bE ?_ | with_reducible refine bR ?_ | refine bX rfl ?_
   all_goals with_reducible refine tN ?_
   all_goals (
    refine cR ?_
    refine oM rfl rfl ?_
    refine oA rfl rfl ?_
    refine oN ?_
    refine CW_ret ?_))
  all_goals (
   have e : y = n := by omega
   subst e
   exact exitH (.inr rfl) [] 1 (.cons (.tmp rfl rfl) .nil) rfl rfl rfl (vHc rfl vHn) rfl rfl ⟨k, sp, hk, hsp, rfl, rfl⟩)
theorem of_prime {p : Int} (hp : primeB p = true) : ∃ n : Nat, p = (n : Int) ∧ n ≤ 13 := by
  have := prime_bd hp
  exact ⟨p.toNat, by omega, by omega⟩
theorem allPoints_con (p : Int) (hp : primeB p = true) : Con Tryd.prog [] 85 [.int p] [] (ownR 3 35 [] 0 (allPts p)) := by
  obtain ⟨n, e, hn⟩ := of_prime hp
  rw [← ptsTo_all e, e]
  exact allPoints_n n hn
theorem l01Points_con (p : Int) (hp : primeB p = true) : Con Tryd.prog [] 80 [.int p] [] (ownR 3 35 [] 0 (allPts p)) := by
  obtain ⟨n, e, hn⟩ := of_prime hp
  rw [← ptsTo_all e, e]
  exact l01Points_n n hn
end Go.Proofs.YtlhlnaehfjojiaaDoor
