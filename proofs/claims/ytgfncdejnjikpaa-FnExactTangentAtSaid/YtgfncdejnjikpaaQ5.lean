/- Pencils: BasePoints, MemberThrough of both sides. Printed by gen_q5.py. -/
import Derived.Test.YtgfncdejnjikpaaQ4
import Derived.Test.YtgfncdejnjikpaaA3
import Derived.Test.YtgfncdejnjikpaaB1
namespace Go.Proofs.Ytgfncdejnjikpaa
attribute [local irreducible] CW OW QW QOp Con thenP inBlockP AW QX
set_option maxRecDepth 10000
set_option linter.unusedSimpArgs false
set_option linter.unusedVariables false
/-- the code of a pencil -/
def pencB (p : Int) (b : Bool) (c d : List Int) : Int := if codeB p b = 0 ∧ c = d then 5 else codeB p b
theorem pencB_zero {p : Int} {b : Bool} {c d : List Int} (h : pencB p b c d = 0) : primeB p = true ∧ b = true := by
  unfold pencB at h
  split at h
  · cases h
  · exact codeB_zero.1 h
theorem isBase_con (p : Int) (c d a : List Int) (hp : primeB p = true) (hc6 : c.length = 6) (hd6 : d.length = 6) (ha3 : a.length = 3) (h1 : sm 13 c) (h2 : sm 13 d) (h3 : sm 13 a) : ConQ Try.prog [] 99 [.int p, .arr c, .arr d, .arr a] [] (.bool ((conV p c a == 0) && (conV p d a == 0))) := by
  refine conW tab_ok [(0, .int p), (1, .arr c), (2, .arr d), (3, .arr a)] 0 [] [] Try.func99 rfl rfl rfl rfl rfl rfl rfl rfl rfl ?_
  refine CW_seq ?_
  refine CW_region ?_
  refine oBox rfl rfl rfl rfl rfl rfl ?_
  refine oBox rfl rfl rfl rfl rfl rfl ?_
  refine oBox rfl rfl rfl rfl rfl rfl ?_
  refine oQ (Q_assign rfl rfl) rfl rfl ?_
  refine OW_nil ?_
  all_goals with_reducible refine tN ?_
  all_goals (
      refine CW_seq ?_
      refine CW_region ?_
      refine oQ (Q_ldw rfl rfl rfl rfl hc6) rfl rfl ?_
      refine oQ (Q_move rfl rfl) rfl rfl ?_
      refine oQ (Q_ldw rfl rfl rfl rfl ha3) rfl rfl ?_
      refine oQ (Q_call0 (conAt_con c p a hp hc6 ha3 h1 h3) rfl rfl rfl) rfl rfl ?_
      refine oQ (Q_bin rfl rfl rfl) rfl rfl ?_
      refine oQ (Q_move rfl rfl) rfl rfl ?_
      all_goals first | refine ogT rfl rfl (by with_reducible rfl) ?_ | refine og1 rfl rfl (by with_reducible rfl) rfl ?_ | refine og0 rfl rfl (by with_reducible rfl) rfl ?_ | refine ogP1 rfl rfl rfl (fun hg => ?_) (fun hg => ?_) | refine ogP0 rfl rfl rfl (fun hg => ?_) (fun hg => ?_)
      all_goals try simp only [decide_eq_true_eq, decide_eq_false_iff_not, beq_iff_eq, beq_eq_false_iff_ne, bne_iff_ne, bne_eq_false_iff_eq, Bool.not_eq_true', Bool.not_eq_false', Int.not_lt, Int.not_le, ne_eq, not_false_eq_true] at hg
      all_goals first | (refine oQ (Q_ldw rfl rfl rfl rfl hd6) rfl rfl ?_) | skip
      all_goals first | refine ogT rfl rfl (by with_reducible rfl) ?_ | refine og1 rfl rfl (by with_reducible rfl) rfl ?_ | refine og0 rfl rfl (by with_reducible rfl) rfl ?_ | refine ogP1 rfl rfl rfl (fun hg => ?_) (fun hg => ?_) | refine ogP0 rfl rfl rfl (fun hg => ?_) (fun hg => ?_)
      all_goals try simp only [decide_eq_true_eq, decide_eq_false_iff_not, beq_iff_eq, beq_eq_false_iff_ne, bne_iff_ne, bne_eq_false_iff_eq, Bool.not_eq_true', Bool.not_eq_false', Int.not_lt, Int.not_le, ne_eq, not_false_eq_true] at hg
      all_goals first | (refine oQ (Q_move rfl rfl) rfl rfl ?_) | skip
      all_goals first | refine ogT rfl rfl (by with_reducible rfl) ?_ | refine og1 rfl rfl (by with_reducible rfl) rfl ?_ | refine og0 rfl rfl (by with_reducible rfl) rfl ?_ | refine ogP1 rfl rfl rfl (fun hg => ?_) (fun hg => ?_) | refine ogP0 rfl rfl rfl (fun hg => ?_) (fun hg => ?_)
      all_goals try simp only [decide_eq_true_eq, decide_eq_false_iff_not, beq_iff_eq, beq_eq_false_iff_ne, bne_iff_ne, bne_eq_false_iff_eq, Bool.not_eq_true', Bool.not_eq_false', Int.not_lt, Int.not_le, ne_eq, not_false_eq_true] at hg
      all_goals first | (refine oQ (Q_ldw rfl rfl rfl rfl ha3) rfl rfl ?_) | skip
      all_goals first | refine ogT rfl rfl (by with_reducible rfl) ?_ | refine og1 rfl rfl (by with_reducible rfl) rfl ?_ | refine og0 rfl rfl (by with_reducible rfl) rfl ?_ | refine ogP1 rfl rfl rfl (fun hg => ?_) (fun hg => ?_) | refine ogP0 rfl rfl rfl (fun hg => ?_) (fun hg => ?_)
      all_goals try simp only [decide_eq_true_eq, decide_eq_false_iff_not, beq_iff_eq, beq_eq_false_iff_ne, bne_iff_ne, bne_eq_false_iff_eq, Bool.not_eq_true', Bool.not_eq_false', Int.not_lt, Int.not_le, ne_eq, not_false_eq_true] at hg
      all_goals first | (refine oQ (Q_call0 (conAt_con d p a hp hd6 ha3 h2 h3) rfl rfl rfl) rfl rfl ?_) | skip
      all_goals first | refine ogT rfl rfl (by with_reducible rfl) ?_ | refine og1 rfl rfl (by with_reducible rfl) rfl ?_ | refine og0 rfl rfl (by with_reducible rfl) rfl ?_ | refine ogP1 rfl rfl rfl (fun hg => ?_) (fun hg => ?_) | refine ogP0 rfl rfl rfl (fun hg => ?_) (fun hg => ?_)
      all_goals try simp only [decide_eq_true_eq, decide_eq_false_iff_not, beq_iff_eq, beq_eq_false_iff_ne, bne_iff_ne, bne_eq_false_iff_eq, Bool.not_eq_true', Bool.not_eq_false', Int.not_lt, Int.not_le, ne_eq, not_false_eq_true] at hg
      all_goals first | (refine oQ (Q_bin rfl rfl rfl) rfl rfl ?_) | skip
      all_goals first | refine oQ (Q_pick_t rfl (by with_reducible rfl) rfl rfl) rfl rfl ?_ | refine oQ (Q_pick_f rfl (by with_reducible rfl) rfl rfl) rfl rfl ?_
      all_goals first | (refine oQ (Q_assign rfl rfl) rfl rfl ?_)
      all_goals refine OW_nil ?_
      all_goals with_reducible refine tN ?_
      all_goals (
          refine CW_ret ?_))
  all_goals (
      refine exitQ (.inr rfl) 0 (.cons (.tmp rfl rfl) .nil) ?_ rfl vHn rfl rfl
      first
        | (simp [resV, hg]; done)
        | (simp only [resV]; rw [beq_iff_eq.2 hg]; simp)
        | (simp only [resV]; rw [beq_eq_false_iff_ne.2 hg]; simp))
theorem conicsCode_two (p : Int) (v : Bool) (c d : List Int) (hc : c.length = 6) (hd : d.length = 6) : ConQ Try.prog [] 82 [.int p, .bool v, .slice 0 0 2 2] [(0, .ints 56 (c ++ d))] (.int (codeB p (v && (pointB p c && pointB p d)))) := by
  have := conicsCode_con p v (c ++ d) 2 2 (by rw [List.length_append]; omega) (by omega)
  rwa [allF_two hc hd] at this
theorem pencilCode_con (p : Int) (v : Bool) (c d : List Int) (hc6 : c.length = 6) (hd6 : d.length = 6) : ConQ Try.prog [] 98 [.int p, .bool v, .arr c, .arr d] [] (.int (pencB p (v && (pointB p c && pointB p d)) c d)) := by
  refine conW tab_ok [(0, .int p), (1, .bool v), (2, .arr c), (3, .arr d)] 0 [] [] Try.func98 rfl rfl rfl rfl rfl rfl rfl rfl rfl ?_
  refine CW_seq ?_
  refine CW_region ?_
  refine oBox rfl rfl rfl rfl rfl rfl ?_
  refine oBox rfl rfl rfl rfl rfl rfl ?_
  refine oQ (Q_assign rfl rfl) rfl rfl ?_
  refine OW_nil ?_
  all_goals with_reducible refine tN ?_
  all_goals (
      refine CW_seq ?_
      refine CW_region ?_
      refine oQ (Q_move rfl rfl) rfl rfl ?_
      refine oQ (Q_move rfl rfl) rfl rfl ?_
      refine oQ (Q_ldw rfl rfl rfl rfl hc6) rfl rfl ?_
      refine oQ (Q_ldw rfl rfl rfl rfl hd6) rfl rfl ?_
      refine oBsl2 (by rw [hc6]) (by rw [hd6]) rfl rfl rfl rfl rfl rfl rfl rfl rfl rfl ?_
      refine oQ (Q_call (conicsCode_two p v c d hc6 hd6) [(0, 2)] rfl rfl (Fits.mk' (vHc rfl vHn) rfl rfl (by simp)) rfl rfl) rfl rfl ?_
      refine oQ (Q_assign rfl rfl) rfl rfl ?_
      refine OW_nil ?_
      all_goals with_reducible refine tN ?_
      all_goals (
          refine CW_seq ?_
          refine CW_seq ?_
          refine CW_region ?_
          refine oQ (Q_move rfl rfl) rfl rfl ?_
          refine oQ (Q_bin rfl rfl rfl) rfl rfl ?_
          refine oQ (Q_move rfl rfl) rfl rfl ?_
          all_goals first | refine ogT rfl rfl (by with_reducible rfl) ?_ | refine og1 rfl rfl (by with_reducible rfl) rfl ?_ | refine og0 rfl rfl (by with_reducible rfl) rfl ?_ | refine ogP1 rfl rfl rfl (fun hg => ?_) (fun hg => ?_) | refine ogP0 rfl rfl rfl (fun hg => ?_) (fun hg => ?_)
          all_goals try simp only [decide_eq_true_eq, decide_eq_false_iff_not, beq_iff_eq, beq_eq_false_iff_ne, bne_iff_ne, bne_eq_false_iff_eq, Bool.not_eq_true', Bool.not_eq_false', Int.not_lt, Int.not_le, ne_eq, not_false_eq_true] at hg
          all_goals first | (refine oQ (Q_ldw rfl rfl rfl rfl hc6) rfl rfl ?_) | skip
          all_goals first | refine ogT rfl rfl (by with_reducible rfl) ?_ | refine og1 rfl rfl (by with_reducible rfl) rfl ?_ | refine og0 rfl rfl (by with_reducible rfl) rfl ?_ | refine ogP1 rfl rfl rfl (fun hg => ?_) (fun hg => ?_) | refine ogP0 rfl rfl rfl (fun hg => ?_) (fun hg => ?_)
          all_goals try simp only [decide_eq_true_eq, decide_eq_false_iff_not, beq_iff_eq, beq_eq_false_iff_ne, bne_iff_ne, bne_eq_false_iff_eq, Bool.not_eq_true', Bool.not_eq_false', Int.not_lt, Int.not_le, ne_eq, not_false_eq_true] at hg
          all_goals first | (refine oQ (Q_ldw rfl rfl rfl rfl hd6) rfl rfl ?_) | skip
          all_goals first | refine ogT rfl rfl (by with_reducible rfl) ?_ | refine og1 rfl rfl (by with_reducible rfl) rfl ?_ | refine og0 rfl rfl (by with_reducible rfl) rfl ?_ | refine ogP1 rfl rfl rfl (fun hg => ?_) (fun hg => ?_) | refine ogP0 rfl rfl rfl (fun hg => ?_) (fun hg => ?_)
          all_goals try simp only [decide_eq_true_eq, decide_eq_false_iff_not, beq_iff_eq, beq_eq_false_iff_ne, bne_iff_ne, bne_eq_false_iff_eq, Bool.not_eq_true', Bool.not_eq_false', Int.not_lt, Int.not_le, ne_eq, not_false_eq_true] at hg
          all_goals first | (refine oQ (Q_arrb rfl rfl rfl rfl rfl rfl rfl rfl rfl hc6 hd6) rfl rfl ?_) | skip
          all_goals first | refine oQ (Q_pick_t rfl (by with_reducible rfl) rfl rfl) rfl rfl ?_ | refine oQ (Q_pick_f rfl (by with_reducible rfl) rfl rfl) rfl rfl ?_
          all_goals refine OW_nil ?_
          all_goals with_reducible refine tN ?_
          all_goals (
              first | refine CW_cond_t rfl (by with_reducible rfl) ?_ | refine CW_cond_f rfl (by with_reducible rfl) ?_ | refine CW_cond rfl (fun hc => ?_) (fun hc => ?_)
              all_goals try simp only [decide_eq_true_eq, decide_eq_false_iff_not, beq_iff_eq, beq_eq_false_iff_ne, bne_iff_ne, bne_eq_false_iff_eq, Bool.not_eq_true', Bool.not_eq_false', Int.not_lt, Int.not_le, ne_eq, not_false_eq_true] at hc
              all_goals first
                | (
                  refine CW_skip ?_)
                | (
                  refine CW_seq ?_
                  refine CW_region ?_
                  refine oQ (Q_assign rfl rfl) rfl rfl ?_
                  refine OW_nil ?_
                  all_goals with_reducible refine tN ?_
                  all_goals (
                      refine CW_ret ?_)))
          all_goals first
            | with_reducible refine tR ?_
            | with_reducible refine tE ?_
            | (
              with_reducible refine tN ?_
              refine CW_seq ?_
              refine CW_region ?_
              refine oQ (Q_move rfl rfl) rfl rfl ?_
              refine oQ (Q_assign rfl rfl) rfl rfl ?_
              refine OW_nil ?_
              all_goals with_reducible refine tN ?_
              all_goals (
                  refine CW_ret ?_))))
  all_goals (
      refine exitQ (.inr rfl) 0 (.cons (.tmp rfl rfl) .nil) ?_ rfl vHn rfl rfl
      simp only [resV, pencB]
      generalize codeB p (v && (pointB p c && pointB p d)) = z at *
      simp_all [ren])
theorem l04Code_row (p : Int) (c d a : List Int) (hc6 : c.length = 6) (hd6 : d.length = 6) (ha3 : a.length = 3) : ConQ Try.prog [] 149 [.int p, .arr c, .arr d, .slice 0 0 1 1] [(0, .ints 64 a)] (.int (codeB p (pointB p a && (pointB p c && pointB p d)))) := by
  refine conW tab_ok [(0, .int p), (1, .arr c), (2, .arr d), (3, .slice 0 0 1 1)] 1 [0] [0] Try.func149 rfl rfl rfl rfl rfl rfl rfl rfl rfl ?_
  refine CW_seq ?_
  refine CW_region ?_
  refine oBox rfl rfl rfl rfl rfl rfl ?_
  refine oBox rfl rfl rfl rfl rfl rfl ?_
  refine oQ (Q_assign rfl rfl) rfl rfl ?_
  refine OW_nil ?_
  all_goals with_reducible refine tN ?_
  all_goals (
      refine CW_seq ?_
      refine CW_region ?_
      refine oQ (Q_move rfl rfl) rfl rfl ?_
      refine oQ (Q_ldw rfl rfl rfl rfl hc6) rfl rfl ?_
      refine oQ (Q_call0 (l03Code_nil p c hc6) rfl rfl rfl) rfl rfl ?_
      refine oQ (Q_assign rfl rfl) rfl rfl ?_
      refine OW_nil ?_
      all_goals with_reducible refine tN ?_
      all_goals (
          refine CW_seq ?_
          refine CW_seq ?_
          refine CW_region ?_
          refine oQ (Q_move rfl rfl) rfl rfl ?_
          refine oQ (Q_bin rfl rfl rfl) rfl rfl ?_
          refine OW_nil ?_
          all_goals with_reducible refine tN ?_
          all_goals (
              first | refine CW_cond_t rfl (by with_reducible rfl) ?_ | refine CW_cond_f rfl (by with_reducible rfl) ?_ | refine CW_cond rfl (fun hc => ?_) (fun hc => ?_)
              all_goals try simp only [decide_eq_true_eq, decide_eq_false_iff_not, beq_iff_eq, beq_eq_false_iff_ne, bne_iff_ne, bne_eq_false_iff_eq, Bool.not_eq_true', Bool.not_eq_false', Int.not_lt, Int.not_le, ne_eq, not_false_eq_true] at hc
              all_goals first
                | (
                  refine CW_skip ?_)
                | (
                  refine CW_region ?_
                  refine oQ (Q_move rfl rfl) rfl rfl ?_
                  refine oQ (Q_ldw rfl rfl rfl rfl hd6) rfl rfl ?_
                  refine oQ (Q_move rfl rfl) rfl rfl ?_
                  refine oQ (Q_call (l03Code_one p d a hd6 ha3) [] rfl rfl (Fits.mk' (vHc rfl vHn) rfl rfl (by simp)) rfl rfl) rfl rfl ?_
                  refine oQ (Q_assign rfl rfl) rfl rfl ?_
                  refine OW_nil ?_))
          all_goals with_reducible refine tN ?_
          all_goals (
              refine CW_seq ?_
              refine CW_region ?_
              refine oQ (Q_move rfl rfl) rfl rfl ?_
              refine oQ (Q_assign rfl rfl) rfl rfl ?_
              refine OW_nil ?_
              all_goals with_reducible refine tN ?_
              all_goals (
                  refine CW_ret ?_))))
  all_goals (
      refine exitQ (.inr rfl) 1 (.cons (.tmp rfl rfl) .nil) ?_ rfl (vHc rfl vHn) rfl rfl
      simp only [resV, codeB] at *
      cases hp : primeB p <;> cases hb : pointB p c <;> cases hd : pointB p d <;> cases ha : pointB p a <;> simp_all [ren])
theorem l04Code_nil (p : Int) (c d : List Int) (hc6 : c.length = 6) (hd6 : d.length = 6) : ConQ Try.prog [] 149 [.int p, .arr c, .arr d, .nilsl] [] (.int (codeB p (pointB p c && pointB p d))) := by
  refine conW tab_ok [(0, .int p), (1, .arr c), (2, .arr d), (3, .nilsl)] 0 [] [] Try.func149 rfl rfl rfl rfl rfl rfl rfl rfl rfl ?_
  refine CW_seq ?_
  refine CW_region ?_
  refine oBox rfl rfl rfl rfl rfl rfl ?_
  refine oBox rfl rfl rfl rfl rfl rfl ?_
  refine oQ (Q_assign rfl rfl) rfl rfl ?_
  refine OW_nil ?_
  all_goals with_reducible refine tN ?_
  all_goals (
      refine CW_seq ?_
      refine CW_region ?_
      refine oQ (Q_move rfl rfl) rfl rfl ?_
      refine oQ (Q_ldw rfl rfl rfl rfl hc6) rfl rfl ?_
      refine oQ (Q_call0 (l03Code_nil p c hc6) rfl rfl rfl) rfl rfl ?_
      refine oQ (Q_assign rfl rfl) rfl rfl ?_
      refine OW_nil ?_
      all_goals with_reducible refine tN ?_
      all_goals (
          refine CW_seq ?_
          refine CW_seq ?_
          refine CW_region ?_
          refine oQ (Q_move rfl rfl) rfl rfl ?_
          refine oQ (Q_bin rfl rfl rfl) rfl rfl ?_
          refine OW_nil ?_
          all_goals with_reducible refine tN ?_
          all_goals (
              first | refine CW_cond_t rfl (by with_reducible rfl) ?_ | refine CW_cond_f rfl (by with_reducible rfl) ?_ | refine CW_cond rfl (fun hc => ?_) (fun hc => ?_)
              all_goals try simp only [decide_eq_true_eq, decide_eq_false_iff_not, beq_iff_eq, beq_eq_false_iff_ne, bne_iff_ne, bne_eq_false_iff_eq, Bool.not_eq_true', Bool.not_eq_false', Int.not_lt, Int.not_le, ne_eq, not_false_eq_true] at hc
              all_goals first
                | (
                  refine CW_skip ?_)
                | (
                  refine CW_region ?_
                  refine oQ (Q_move rfl rfl) rfl rfl ?_
                  refine oQ (Q_ldw rfl rfl rfl rfl hd6) rfl rfl ?_
                  refine oQ (Q_move rfl rfl) rfl rfl ?_
                  refine oQ (Q_call0 (l03Code_nil p d hd6) rfl rfl rfl) rfl rfl ?_
                  refine oQ (Q_assign rfl rfl) rfl rfl ?_
                  refine OW_nil ?_))
          all_goals with_reducible refine tN ?_
          all_goals (
              refine CW_seq ?_
              refine CW_region ?_
              refine oQ (Q_move rfl rfl) rfl rfl ?_
              refine oQ (Q_assign rfl rfl) rfl rfl ?_
              refine OW_nil ?_
              all_goals with_reducible refine tN ?_
              all_goals (
                  refine CW_ret ?_))))
  all_goals (
      refine exitQ (.inr rfl) 0 (.cons (.tmp rfl rfl) .nil) ?_ rfl vHn rfl rfl
      simp only [resV, codeB] at *
      cases hp : primeB p <;> cases hb : pointB p c <;> cases hd : pointB p d <;> simp_all [ren])

theorem l04Pencil_row (p : Int) (c d a : List Int) (hc6 : c.length = 6) (hd6 : d.length = 6) (ha3 : a.length = 3) : ConQ Try.prog [] 95 [.int p, .arr c, .arr d, .slice 0 0 1 1] [(0, .ints 64 a)] (.int (pencB p (pointB p a && (pointB p c && pointB p d)) c d)) := by
  refine conW tab_ok [(0, .int p), (1, .arr c), (2, .arr d), (3, .slice 0 0 1 1)] 1 [0] [0] Try.func95 rfl rfl rfl rfl rfl rfl rfl rfl rfl ?_
  refine CW_seq ?_
  refine CW_region ?_
  refine oBox rfl rfl rfl rfl rfl rfl ?_
  refine oBox rfl rfl rfl rfl rfl rfl ?_
  refine oQ (Q_assign rfl rfl) rfl rfl ?_
  refine OW_nil ?_
  all_goals with_reducible refine tN ?_
  all_goals (
      refine CW_seq ?_
      refine CW_region ?_
      refine oQ (Q_move rfl rfl) rfl rfl ?_
      refine oQ (Q_ldw rfl rfl rfl rfl hc6) rfl rfl ?_
      refine oQ (Q_ldw rfl rfl rfl rfl hd6) rfl rfl ?_
      refine oQ (Q_move rfl rfl) rfl rfl ?_
      refine oQ (Q_call (l04Code_row p c d a hc6 hd6 ha3) [] rfl rfl (Fits.mk' (vHc rfl vHn) rfl rfl (by simp)) rfl rfl) rfl rfl ?_
      refine oQ (Q_assign rfl rfl) rfl rfl ?_
      refine OW_nil ?_
      all_goals with_reducible refine tN ?_
      all_goals (
          refine CW_seq ?_
          refine CW_seq ?_
          refine CW_region ?_
          refine oQ (Q_move rfl rfl) rfl rfl ?_
          refine oQ (Q_bin rfl rfl rfl) rfl rfl ?_
          refine oQ (Q_move rfl rfl) rfl rfl ?_
          all_goals first | refine ogT rfl rfl (by with_reducible rfl) ?_ | refine og1 rfl rfl (by with_reducible rfl) rfl ?_ | refine og0 rfl rfl (by with_reducible rfl) rfl ?_ | refine ogP1 rfl rfl rfl (fun hg => ?_) (fun hg => ?_) | refine ogP0 rfl rfl rfl (fun hg => ?_) (fun hg => ?_)
          all_goals try simp only [decide_eq_true_eq, decide_eq_false_iff_not, beq_iff_eq, beq_eq_false_iff_ne, bne_iff_ne, bne_eq_false_iff_eq, Bool.not_eq_true', Bool.not_eq_false', Int.not_lt, Int.not_le, ne_eq, not_false_eq_true] at hg
          all_goals first | (refine oQ (Q_ldw rfl rfl rfl rfl hc6) rfl rfl ?_) | skip
          all_goals first | refine ogT rfl rfl (by with_reducible rfl) ?_ | refine og1 rfl rfl (by with_reducible rfl) rfl ?_ | refine og0 rfl rfl (by with_reducible rfl) rfl ?_ | refine ogP1 rfl rfl rfl (fun hg => ?_) (fun hg => ?_) | refine ogP0 rfl rfl rfl (fun hg => ?_) (fun hg => ?_)
          all_goals try simp only [decide_eq_true_eq, decide_eq_false_iff_not, beq_iff_eq, beq_eq_false_iff_ne, bne_iff_ne, bne_eq_false_iff_eq, Bool.not_eq_true', Bool.not_eq_false', Int.not_lt, Int.not_le, ne_eq, not_false_eq_true] at hg
          all_goals first | (refine oQ (Q_ldw rfl rfl rfl rfl hd6) rfl rfl ?_) | skip
          all_goals first | refine ogT rfl rfl (by with_reducible rfl) ?_ | refine og1 rfl rfl (by with_reducible rfl) rfl ?_ | refine og0 rfl rfl (by with_reducible rfl) rfl ?_ | refine ogP1 rfl rfl rfl (fun hg => ?_) (fun hg => ?_) | refine ogP0 rfl rfl rfl (fun hg => ?_) (fun hg => ?_)
          all_goals try simp only [decide_eq_true_eq, decide_eq_false_iff_not, beq_iff_eq, beq_eq_false_iff_ne, bne_iff_ne, bne_eq_false_iff_eq, Bool.not_eq_true', Bool.not_eq_false', Int.not_lt, Int.not_le, ne_eq, not_false_eq_true] at hg
          all_goals first | (refine oQ (Q_arrb rfl rfl rfl rfl rfl rfl rfl rfl rfl hc6 hd6) rfl rfl ?_) | skip
          all_goals first | refine oQ (Q_pick_t rfl (by with_reducible rfl) rfl rfl) rfl rfl ?_ | refine oQ (Q_pick_f rfl (by with_reducible rfl) rfl rfl) rfl rfl ?_
          all_goals refine OW_nil ?_
          all_goals with_reducible refine tN ?_
          all_goals (
              first | refine CW_cond_t rfl (by with_reducible rfl) ?_ | refine CW_cond_f rfl (by with_reducible rfl) ?_ | refine CW_cond rfl (fun hc => ?_) (fun hc => ?_)
              all_goals try simp only [decide_eq_true_eq, decide_eq_false_iff_not, beq_iff_eq, beq_eq_false_iff_ne, bne_iff_ne, bne_eq_false_iff_eq, Bool.not_eq_true', Bool.not_eq_false', Int.not_lt, Int.not_le, ne_eq, not_false_eq_true] at hc
              all_goals first
                | (
                  refine CW_skip ?_)
                | (
                  refine CW_region ?_
                  refine oQ (Q_assign rfl rfl) rfl rfl ?_
                  refine OW_nil ?_))
          all_goals with_reducible refine tN ?_
          all_goals (
              refine CW_seq ?_
              refine CW_region ?_
              refine oQ (Q_move rfl rfl) rfl rfl ?_
              refine oQ (Q_assign rfl rfl) rfl rfl ?_
              refine OW_nil ?_
              all_goals with_reducible refine tN ?_
              all_goals (
                  refine CW_ret ?_))))
  all_goals (
      refine exitQ (.inr rfl) 1 (.cons (.tmp rfl rfl) .nil) ?_ rfl (vHc rfl vHn) rfl rfl
      simp only [resV, pencB]
      generalize codeB p (pointB p a && (pointB p c && pointB p d)) = z at *
      simp_all [ren])
theorem l04Pencil_nil (p : Int) (c d : List Int) (hc6 : c.length = 6) (hd6 : d.length = 6) : ConQ Try.prog [] 95 [.int p, .arr c, .arr d, .nilsl] [] (.int (pencB p (pointB p c && pointB p d) c d)) := by
  refine conW tab_ok [(0, .int p), (1, .arr c), (2, .arr d), (3, .nilsl)] 0 [] [] Try.func95 rfl rfl rfl rfl rfl rfl rfl rfl rfl ?_
  refine CW_seq ?_
  refine CW_region ?_
  refine oBox rfl rfl rfl rfl rfl rfl ?_
  refine oBox rfl rfl rfl rfl rfl rfl ?_
  refine oQ (Q_assign rfl rfl) rfl rfl ?_
  refine OW_nil ?_
  all_goals with_reducible refine tN ?_
  all_goals (
      refine CW_seq ?_
      refine CW_region ?_
      refine oQ (Q_move rfl rfl) rfl rfl ?_
      refine oQ (Q_ldw rfl rfl rfl rfl hc6) rfl rfl ?_
      refine oQ (Q_ldw rfl rfl rfl rfl hd6) rfl rfl ?_
      refine oQ (Q_move rfl rfl) rfl rfl ?_
      refine oQ (Q_call0 (l04Code_nil p c d hc6 hd6) rfl rfl rfl) rfl rfl ?_
      refine oQ (Q_assign rfl rfl) rfl rfl ?_
      refine OW_nil ?_
      all_goals with_reducible refine tN ?_
      all_goals (
          refine CW_seq ?_
          refine CW_seq ?_
          refine CW_region ?_
          refine oQ (Q_move rfl rfl) rfl rfl ?_
          refine oQ (Q_bin rfl rfl rfl) rfl rfl ?_
          refine oQ (Q_move rfl rfl) rfl rfl ?_
          all_goals first | refine ogT rfl rfl (by with_reducible rfl) ?_ | refine og1 rfl rfl (by with_reducible rfl) rfl ?_ | refine og0 rfl rfl (by with_reducible rfl) rfl ?_ | refine ogP1 rfl rfl rfl (fun hg => ?_) (fun hg => ?_) | refine ogP0 rfl rfl rfl (fun hg => ?_) (fun hg => ?_)
          all_goals try simp only [decide_eq_true_eq, decide_eq_false_iff_not, beq_iff_eq, beq_eq_false_iff_ne, bne_iff_ne, bne_eq_false_iff_eq, Bool.not_eq_true', Bool.not_eq_false', Int.not_lt, Int.not_le, ne_eq, not_false_eq_true] at hg
          all_goals first | (refine oQ (Q_ldw rfl rfl rfl rfl hc6) rfl rfl ?_) | skip
          all_goals first | refine ogT rfl rfl (by with_reducible rfl) ?_ | refine og1 rfl rfl (by with_reducible rfl) rfl ?_ | refine og0 rfl rfl (by with_reducible rfl) rfl ?_ | refine ogP1 rfl rfl rfl (fun hg => ?_) (fun hg => ?_) | refine ogP0 rfl rfl rfl (fun hg => ?_) (fun hg => ?_)
          all_goals try simp only [decide_eq_true_eq, decide_eq_false_iff_not, beq_iff_eq, beq_eq_false_iff_ne, bne_iff_ne, bne_eq_false_iff_eq, Bool.not_eq_true', Bool.not_eq_false', Int.not_lt, Int.not_le, ne_eq, not_false_eq_true] at hg
          all_goals first | (refine oQ (Q_ldw rfl rfl rfl rfl hd6) rfl rfl ?_) | skip
          all_goals first | refine ogT rfl rfl (by with_reducible rfl) ?_ | refine og1 rfl rfl (by with_reducible rfl) rfl ?_ | refine og0 rfl rfl (by with_reducible rfl) rfl ?_ | refine ogP1 rfl rfl rfl (fun hg => ?_) (fun hg => ?_) | refine ogP0 rfl rfl rfl (fun hg => ?_) (fun hg => ?_)
          all_goals try simp only [decide_eq_true_eq, decide_eq_false_iff_not, beq_iff_eq, beq_eq_false_iff_ne, bne_iff_ne, bne_eq_false_iff_eq, Bool.not_eq_true', Bool.not_eq_false', Int.not_lt, Int.not_le, ne_eq, not_false_eq_true] at hg
          all_goals first | (refine oQ (Q_arrb rfl rfl rfl rfl rfl rfl rfl rfl rfl hc6 hd6) rfl rfl ?_) | skip
          all_goals first | refine oQ (Q_pick_t rfl (by with_reducible rfl) rfl rfl) rfl rfl ?_ | refine oQ (Q_pick_f rfl (by with_reducible rfl) rfl rfl) rfl rfl ?_
          all_goals refine OW_nil ?_
          all_goals with_reducible refine tN ?_
          all_goals (
              first | refine CW_cond_t rfl (by with_reducible rfl) ?_ | refine CW_cond_f rfl (by with_reducible rfl) ?_ | refine CW_cond rfl (fun hc => ?_) (fun hc => ?_)
              all_goals try simp only [decide_eq_true_eq, decide_eq_false_iff_not, beq_iff_eq, beq_eq_false_iff_ne, bne_iff_ne, bne_eq_false_iff_eq, Bool.not_eq_true', Bool.not_eq_false', Int.not_lt, Int.not_le, ne_eq, not_false_eq_true] at hc
              all_goals first
                | (
                  refine CW_skip ?_)
                | (
                  refine CW_region ?_
                  refine oQ (Q_assign rfl rfl) rfl rfl ?_
                  refine OW_nil ?_))
          all_goals with_reducible refine tN ?_
          all_goals (
              refine CW_seq ?_
              refine CW_region ?_
              refine oQ (Q_move rfl rfl) rfl rfl ?_
              refine oQ (Q_assign rfl rfl) rfl rfl ?_
              refine OW_nil ?_
              all_goals with_reducible refine tN ?_
              all_goals (
                  refine CW_ret ?_))))
  all_goals (
      refine exitQ (.inr rfl) 0 (.cons (.tmp rfl rfl) .nil) ?_ rfl vHn rfl rfl
      simp only [resV, pencB]
      generalize codeB p (pointB p c && pointB p d) = z at *
      simp_all [ren])
theorem base1_con (p : Int) (c d : List Int) (hp : primeB p = true) (hc6 : c.length = 6) (hd6 : d.length = 6) (h1 : sm 13 c) (h2 : sm 13 d) (m : List Int) (hm : m ∈ allPts p) : ConQ Try.prog [] 112 [.arr m, .ptr 1000 0, .ptr 1001 0, .ptr 1002 0] [(1000, .ints 2 [p]), (1001, .ints 56 c), (1002, .ints 56 d)] (.bool ((conV p c m == 0) && (conV p d m == 0))) := by
  have h3 := allPts_three hm
  have hs := allPts_sm hp hm
  refine conW tab_ok [(0, .arr m), (1, .ptr 1000 0), (2, .ptr 1001 0), (3, .ptr 1002 0)] 0 [1000, 1001, 1002] [1000, 1001, 1002] Try.func112 rfl rfl rfl rfl rfl rfl rfl rfl rfl ?_
  refine CW_seq ?_
  refine CW_region ?_
  refine oBox rfl rfl rfl rfl rfl rfl ?_
  refine oQ (Q_assign rfl rfl) rfl rfl ?_
  refine OW_nil ?_
  all_goals with_reducible refine tN ?_
  all_goals (
      refine CW_seq ?_
      refine CW_region ?_
      first | refine oQ (Q_ldc rfl rfl rfl rfl rfl) rfl rfl ?_ | refine oQ (Q_ld rfl rfl rfl rfl (by first | omega | (dsimp only; omega) | (simp; omega) | (simp; done))) rfl rfl ?_
      refine oQ (Q_ldw rfl rfl rfl rfl hc6) rfl rfl ?_
      refine oQ (Q_ldw rfl rfl rfl rfl hd6) rfl rfl ?_
      refine oQ (Q_ldw rfl rfl rfl rfl h3) rfl rfl ?_
      refine oQ (Q_call0 (isBase_con p c d m hp hc6 hd6 h3 h1 h2 hs) rfl rfl rfl) rfl rfl ?_
      refine oQ (Q_assign rfl rfl) rfl rfl ?_
      refine OW_nil ?_
      all_goals with_reducible refine tN ?_
      all_goals (
          refine CW_ret ?_))
  all_goals (
      ((refine exitQ (.inr rfl) 0 (.cons (.tmp rfl rfl) .nil) ?_ rfl (vHc rfl (vHc rfl (vHc rfl vHn))) rfl rfl); rfl))
theorem impl_BasePoints_con (p : Int) (c d : List Int) (hc6 : c.length = 6) (hd6 : d.length = 6) : Con Try.prog [] 60 [.int p, .arr c, .arr d] [] (listR 3 64 [] 0 (pencB p (pointB p c && pointB p d) c d) (((allPts p).filter fun m => (conV p c m == 0) && (conV p d m == 0)))) := by
  refine conW tab_ok [(0, .int p), (1, .arr c), (2, .arr d)] 0 [] [] Try.func60 rfl rfl rfl rfl rfl rfl rfl rfl rfl ?_
  refine CW_seq ?_
  refine CW_region ?_
  refine oBox rfl rfl rfl rfl rfl rfl ?_
  refine oBox rfl rfl rfl rfl rfl rfl ?_
  refine oBox rfl rfl rfl rfl rfl rfl ?_
  refine oQ (Q_assign rfl rfl) rfl rfl ?_
  refine oQ (Q_assign rfl rfl) rfl rfl ?_
  refine OW_nil ?_
  all_goals with_reducible refine tN ?_
  all_goals (
      refine CW_seq ?_
      refine CW_seq ?_
      refine CW_region ?_
      first | refine oQ (Q_ldc rfl rfl rfl rfl rfl) rfl rfl ?_ | refine oQ (Q_ld rfl rfl rfl rfl (by first | omega | (dsimp only; omega) | (simp; omega) | (simp; done))) rfl rfl ?_
      refine oQ (Q_ldw rfl rfl rfl rfl hc6) rfl rfl ?_
      refine oQ (Q_ldw rfl rfl rfl rfl hd6) rfl rfl ?_
      refine oQ (Q_call0 (pencilCode_con p true c d hc6 hd6) rfl rfl rfl) rfl rfl ?_
      refine oQ (Q_assign rfl rfl) rfl rfl ?_
      refine OW_nil ?_
      all_goals with_reducible refine tN ?_
      all_goals (
          refine CW_seq ?_
          refine CW_region ?_
          refine oQ (Q_move rfl rfl) rfl rfl ?_
          refine oQ (Q_bin rfl rfl rfl) rfl rfl ?_
          refine OW_nil ?_
          all_goals with_reducible refine tN ?_
          all_goals (
              first | refine CW_cond_t rfl (by with_reducible rfl) ?_ | refine CW_cond_f rfl (by with_reducible rfl) ?_ | refine CW_cond rfl (fun hc => ?_) (fun hc => ?_)
              all_goals try simp only [decide_eq_true_eq, decide_eq_false_iff_not, beq_iff_eq, beq_eq_false_iff_ne, bne_iff_ne, bne_eq_false_iff_eq, Bool.not_eq_true', Bool.not_eq_false', Int.not_lt, Int.not_le, ne_eq, not_false_eq_true] at hc
              all_goals first
                | (
                  refine CW_skip ?_)
                | (
                  refine CW_seq ?_
                  refine CW_region ?_
                  refine oQ (Q_move rfl rfl) rfl rfl ?_
                  refine oQ (Q_assign rfl rfl) rfl rfl ?_
                  refine oQ (Q_assign rfl rfl) rfl rfl ?_
                  refine OW_nil ?_
                  all_goals with_reducible refine tN ?_
                  all_goals (
                      refine CW_ret ?_))))
      all_goals first
        | with_reducible refine tR ?_
        | with_reducible refine tE ?_
        | (
          with_reducible refine tN ?_
          refine CW_seq ?_
          refine CW_region ?_
          first | refine oQ (Q_ldc rfl rfl rfl rfl rfl) rfl rfl ?_ | refine oQ (Q_ld rfl rfl rfl rfl (by first | omega | (dsimp only; omega) | (simp; omega) | (simp; done))) rfl rfl ?_
          refine oQ (Q_makeFunc rfl rfl) rfl rfl ?_
          (have hc0 : pencB p (pointB p c && pointB p d) c d = 0 := hc)
          (have hcc := pencB_zero hc0)
          (have hcb := Bool.and_eq_true_iff.1 hcc.2)
          refine oCall (pointsThat_3 112 2 [p] 56 c 56 d (fun m => (conV p c m == 0) && (conV p d m == 0)) p hcc.1 (fun m hm => base1_con p c d hcc.1 hc6 hd6 (sm_point hcb.1) (sm_point hcb.2) m hm)) [(1000, 0), (1001, 1), (1002, 2)] 1 rfl rfl (Fits.mk' (vHc rfl (vHc rfl (vHc rfl vHn))) rfl rfl (by simp)) rfl rfl ?_
          rintro r H1 ⟨k, sp, hk, hsp, rfl, rfl⟩
          refine ⟨.slice 3 0 ((allPts p).filter fun m => (conV p c m == 0) && (conV p d m == 0)).length k, [(0, .ints 2 [p]), (1, .ints 56 c), (2, .ints 56 d), (3, .ints 64 (((allPts p).filter fun m => (conV p c m == 0) && (conV p d m == 0)).flatten ++ sp))], rfl, rfl, rfl, ?_⟩
          refine oQ (Q_assign rfl rfl) rfl rfl ?_
          refine oQ (Q_assign rfl rfl) rfl rfl ?_
          refine OW_nil ?_
          all_goals with_reducible refine tN ?_
          all_goals (
              refine CW_ret ?_)))
  all_goals (
      first
        | exact exitH (r0 := .tuple [.nilsl, .int (pencB p (pointB p c && pointB p d) c d)]) (H0 := []) (.inr rfl) [] 0 (.cons (.tmp rfl rfl) (.cons (.tmp rfl rfl) .nil)) rfl rfl rfl vHn rfl rfl (listR_no hc rfl rfl)
        | exact exitH (r0 := .tuple [.slice 0 0 (((allPts p).filter fun m => (conV p c m == 0) && (conV p d m == 0))).length k, .int 0]) (H0 := [(0, .ints 64 ((((allPts p).filter fun m => (conV p c m == 0) && (conV p d m == 0))).flatten ++ sp))]) (.inr rfl) [(0, 3)] 1 (.cons (.tmp rfl rfl) (.cons (.tmp rfl rfl) .nil)) rfl rfl rfl (vHc rfl vHn) rfl rfl (listR_ok hc0 hk hsp rfl rfl))
theorem l04Common_con (p : Int) (c d : List Int) (hp : primeB p = true) (hc6 : c.length = 6) (hd6 : d.length = 6) (h1 : modB p c = true) (h2 : modB p d = true) : Con Try.prog [] 110 [.int p, .arr c, .arr d] [] (ownR 3 64 [] 0 ((allPts p).filter fun m => (conV p c m == 0) && (conV p d m == 0))) := by
  have hb := prime_bd hp
  have hal := allPts_len hp
  generalize hLL : ((allPts p).filter fun m => conV p c m == 0) = LL at *
  have hmem : ∀ x ∈ LL, x ∈ allPts p := fun x hx => by rw [← hLL] at hx; exact (List.mem_filter.1 hx).1
  have h3 : ∀ x ∈ LL, x.length = 3 := fun x hx => allPts_three (hmem x hx)
  have hf3 := flat3 h3
  have hln : LL.length ≤ 183 := by rw [← hLL]; exact Nat.le_trans (List.length_filter_le _ _) hal.1
  refine conW tab_ok [(0, .int p), (1, .arr c), (2, .arr d)] 0 [] [] Try.func110 rfl rfl rfl rfl rfl rfl rfl rfl rfl ?_
  refine CW_seq ?_
  refine CW_region ?_
  refine oBox rfl rfl rfl rfl rfl rfl ?_
  refine oBox rfl rfl rfl rfl rfl rfl ?_
  refine oQ (Q_assign rfl rfl) rfl rfl ?_
  refine OW_nil ?_
  all_goals with_reducible refine tN ?_
  all_goals (
      refine CW_seq ?_
      refine CW_region ?_
      refine oQ (Q_move rfl rfl) rfl rfl ?_
      refine oQ (Q_ldw rfl rfl rfl rfl hc6) rfl rfl ?_
      refine oCall (l03Points_con p c hp hc6 h1) [] 1 rfl rfl (Fits.mk' vHn rfl rfl (by simp)) rfl rfl ?_
      rintro r H1 ⟨k0, sp0, hk0, hsp0, rfl, rfl⟩
      rw [hLL] at hk0 hsp0 ⊢
      refine ⟨.slice 2 0 LL.length k0, [(2, .ints 64 (LL.flatten ++ sp0))], rfl, rfl, rfl, ?_⟩
      refine oBsl rfl rfl rfl rfl (.inr ⟨rfl, rfl, by decide⟩) rfl rfl rfl rfl rfl rfl ?_
      refine oQ (Q_assign rfl rfl) rfl rfl ?_
      refine oQ (Q_assign rfl rfl) rfl rfl ?_
      refine OW_nil ?_
      all_goals with_reducible refine tN ?_
      all_goals (
          refine CW_seq ?_
          refine CW_seq ?_
          refine CW_region ?_
          refine oQ (Q_assign rfl rfl) rfl rfl ?_
          refine OW_nil ?_
          all_goals with_reducible refine tN ?_
          all_goals (
              refine CW_block ?_
              refine CW_loop (ι := Nat × Nat × List Int) (fun x => x.1 ≤ LL.length ∧ ((LL.take x.1).filter fun m => conV p d m == 0).length ≤ x.2.1 ∧ x.2.1 * 3 ≤ ((LL.take x.1).filter fun m => conV p d m == 0).length * 3 + x.2.2.length) (fun x => ⟨[(0, .int p), (5, .ptr 1 0), (7, .slice 2 0 LL.length k0), (8, .slice 3 0 ((LL.take x.1).filter fun m => conV p d m == 0).length x.2.1), (9, .int x.1)], [(1, .ints 56 d), (2, .ints 64 (LL.flatten ++ sp0)), (3, .ints 64 (((LL.take x.1).filter fun m => conV p d m == 0).flatten ++ x.2.2))], 4⟩) (fun x => LL.length - x.1) (0, 0, []) ?_ ?_ ?_
              · exact ⟨Nat.zero_le _, Nat.le_refl _, Nat.le_refl _⟩
              · refine View.mk' [] rfl rfl rfl ?_ ?_
                repeat' first | exact vFn | refine vFc rfl ?_ | exact vHn | refine vHc rfl ?_ | refine vFc (congrArg (fun z => some (V.int z)) ?_) ?_ | refine vHc (congrArg (fun z => some (Blk.ints _ z)) ?_) ?_ | refine vFc (congrArg (fun z => some (V.bool z)) ?_) ?_ | refine vFs rfl rfl ?_ ?_
              rintro ⟨i, k, sp⟩ ⟨hi, hk, hsp⟩
              dsimp only at hi hk hsp ⊢
              have hfn := filter_len (g := fun m => conV p d m == 0) i hi
              have hlen := flat3 (filter_three (g := fun m => conV p d m == 0) h3 i)
              have h3i := fun h : i < LL.length => h3 _ (getD_mem h)
              have hmi := fun h : i < LL.length => hmem _ (getD_mem h)
              refine CW_seq ?_
              refine CW_seq ?_
              refine CW_region ?_
              refine oQ (Q_move rfl rfl) rfl rfl ?_
              refine oQ (Q_move rfl rfl) rfl rfl ?_
              first | refine oQ (Q_len rfl rfl rfl rfl) rfl rfl ?_ | refine oQ (Q_len0 rfl rfl rfl rfl) rfl rfl ?_
              refine oQ (Q_bin rfl rfl rfl) rfl rfl ?_
              refine OW_nil ?_
              all_goals with_reducible refine tN ?_
              all_goals (
                  first | refine CW_cond_t rfl (by with_reducible rfl) ?_ | refine CW_cond_f rfl (by with_reducible rfl) ?_ | refine CW_cond rfl (fun hc => ?_) (fun hc => ?_)
                  all_goals try simp only [decide_eq_true_eq, decide_eq_false_iff_not, beq_iff_eq, beq_eq_false_iff_ne, bne_iff_ne, bne_eq_false_iff_eq, Bool.not_eq_true', Bool.not_eq_false', Int.not_lt, Int.not_le, ne_eq, not_false_eq_true] at hc
                  all_goals first
                    | (
                      refine CW_skip ?_)
                    | (
                      refine CW_exit ?_))
              all_goals first
                | with_reducible refine tR ?_
                | with_reducible refine tE ?_
                | (
                  with_reducible refine tN ?_
                  refine CW_seq ?_
                  refine CW_block ?_
                  refine CW_seq ?_
                  refine CW_draw lateOk (by decide +kernel) ?_
                  refine qQ (Q_move rfl rfl) rfl rfl ?_
                  refine qQ (Q_ldw rfl rfl rfl rfl hd6) rfl rfl ?_
                  refine qQ (Q_move rfl rfl) rfl rfl ?_
                  refine qQ (Q_move rfl rfl) rfl rfl ?_
                  (have h3i := h3i (by omega)); (have hmi := hmi (by omega)); refine qQ (Q_ixs0z 3 rfl rfl rfl rfl rfl rfl (by omega)) rfl rfl ?_
                  refine qQ (Q_lda (n := 3) rfl rfl rfl rfl rfl (by rw [List.length_append, hf3]; omega)) rfl rfl ?_; rw [flat_get h3 (show i < LL.length by omega)]
                  refine qQ (Q_call0 (l03At_con p d _ hp hd6 h3i h2 (allPts_mod hp hmi)) rfl rfl rfl) rfl rfl ?_
                  refine qQ (Q_bin rfl rfl rfl) rfl rfl ?_
                  refine QW_nil ?_
                  all_goals with_reducible refine tN ?_
                  all_goals (
                      first | refine CW_cond_t rfl (by with_reducible rfl) ?_ | refine CW_cond_f rfl (by with_reducible rfl) ?_ | refine CW_cond rfl (fun hc => ?_) (fun hc => ?_)
                      all_goals try simp only [decide_eq_true_eq, decide_eq_false_iff_not, beq_iff_eq, beq_eq_false_iff_ne, bne_iff_ne, bne_eq_false_iff_eq, Bool.not_eq_true', Bool.not_eq_false', Int.not_lt, Int.not_le, ne_eq, not_false_eq_true] at hc
                      all_goals first
                        | (
                          refine CW_skip ?_)
                        | (
                          refine CW_region ?_
                          refine oQ (Q_move rfl rfl) rfl rfl ?_
                          refine oQ (Q_move rfl rfl) rfl rfl ?_
                          refine oQ (Q_move rfl rfl) rfl rfl ?_
                          first | refine oQ (Q_ixs0z 3 rfl rfl rfl rfl rfl rfl (by first | omega | (dsimp only; omega) | (simp; omega) | (simp; done))) rfl rfl ?_ | refine oQ (Q_ixsz 3 rfl rfl rfl rfl rfl rfl (by first | omega | (dsimp only; omega) | (simp; omega) | (simp; done))) rfl rfl ?_
                          refine oQ (Q_lda (n := 3) rfl rfl rfl rfl rfl (by rw [List.length_append, hf3]; omega)) rfl rfl ?_; rw [flat_get h3 (show i < LL.length by omega)]
                          refine oBsl1 h3i rfl rfl rfl rfl rfl rfl rfl rfl rfl rfl ?_
                          refine oApp (sz := 3) (by_ := 24) (xl := LL.getD i []) rfl rfl rfl rfl rfl rfl ⟨by decide, rfl, .inr rfl⟩ rfl rfl rfl rfl rfl rfl hlen (by rw [h3i]) (by omega) (by omega) (by omega) (by omega) rfl rfl (fun k2 sp2 h1 h2 => ?_)
                          refine oQ (Q_assign rfl rfl) rfl rfl ?_
                          refine OW_nil ?_))
                  all_goals first | with_reducible refine bN ?_ | with_reducible refine bE ?_ | with_reducible refine bR ?_ | refine bX rfl ?_
                  all_goals with_reducible refine tN ?_
                  all_goals (
                      refine CW_region ?_
                      refine oQ (Q_move rfl rfl) rfl rfl ?_
                      first | refine oQ (Q_binu rfl rfl rfl (by omega)) rfl rfl ?_ | refine oQ (Q_bin rfl rfl rfl) rfl rfl ?_
                      refine oQ (Q_assign rfl rfl) rfl rfl ?_
                      refine OW_nil ?_))
              all_goals first
                | with_reducible refine tR ?_
                | with_reducible refine tE ?_
                | (
                  with_reducible refine tN ?_
                  first
                    | (
                      refine ⟨(i + 1, k2, sp2), ?_, ?_, View.mk' [(3, 5)] rfl rfl rfl ?_ ?_⟩
                      · dsimp only
                        first
                          | (rw [filter_snoc (by omega) (by exact beq_iff_eq.2 hc), List.length_append, List.length_singleton]; exact ⟨by omega, h1, h2⟩)
                          | (rw [filter_skip (by omega) (by exact beq_eq_false_iff_ne.2 hc)]; exact ⟨by omega, hk, hsp⟩)
                      · omega
                      all_goals (repeat' first | exact vFn | refine vFc rfl ?_ | exact vHn | refine vHc rfl ?_ | refine vFc (congrArg (fun z => some (V.int z)) ?_) ?_ | refine vHc (congrArg (fun z => some (Blk.ints _ z)) ?_) ?_ | refine vFc (congrArg (fun z => some (V.bool z)) ?_) ?_ | refine vFs rfl rfl ?_ ?_)
                      all_goals dsimp only
                      all_goals first
                        | (rw [filter_snoc (by omega) (by exact beq_iff_eq.2 hc)]; simp; done)
                        | (rw [filter_skip (by omega) (by exact beq_eq_false_iff_ne.2 hc)]; done))
                    | (
                      refine ⟨(i + 1, k, sp), ?_, ?_, View.mk' [] rfl rfl rfl ?_ ?_⟩
                      · dsimp only
                        first
                          | (rw [filter_snoc (by omega) (by exact beq_iff_eq.2 hc), List.length_append, List.length_singleton]; exact ⟨by omega, h1, h2⟩)
                          | (rw [filter_skip (by omega) (by exact beq_eq_false_iff_ne.2 hc)]; exact ⟨by omega, hk, hsp⟩)
                      · omega
                      all_goals (repeat' first | exact vFn | refine vFc rfl ?_ | exact vHn | refine vHc rfl ?_ | refine vFc (congrArg (fun z => some (V.int z)) ?_) ?_ | refine vHc (congrArg (fun z => some (Blk.ints _ z)) ?_) ?_ | refine vFc (congrArg (fun z => some (V.bool z)) ?_) ?_ | refine vFs rfl rfl ?_ ?_)
                      all_goals dsimp only
                      all_goals first
                        | (rw [filter_snoc (by omega) (by exact beq_iff_eq.2 hc)]; simp; done)
                        | (rw [filter_skip (by omega) (by exact beq_eq_false_iff_ne.2 hc)]; done)))
              all_goals first | with_reducible refine bN ?_ | with_reducible refine bE ?_ | with_reducible refine bR ?_ | refine bX rfl ?_)
          all_goals with_reducible refine tN ?_
          all_goals (
              refine CW_seq ?_
              refine CW_region ?_
              refine oQ (Q_move rfl rfl) rfl rfl ?_
              refine oQ (Q_assign rfl rfl) rfl rfl ?_
              refine OW_nil ?_
              all_goals with_reducible refine tN ?_
              all_goals (
                  refine CW_ret ?_))))
  all_goals (
      have e : i = LL.length := by omega
      subst e
      rw [List.take_length] at hk hsp
      rw [show ((allPts p).filter fun m => (conV p c m == 0) && (conV p d m == 0)) = LL.filter fun m => conV p d m == 0 by rw [← hLL, List.filter_filter]; congr 1; funext m; rw [Bool.and_comm]]
      exact exitH (r0 := .slice 0 0 (LL.filter fun m => conV p d m == 0).length k) (H0 := [(0, .ints 64 ((LL.filter fun m => conV p d m == 0).flatten ++ sp))]) (.inr rfl) [(0, 3)] 1 (.cons (.tmp rfl rfl) .nil) (by simp only [List.take_length]; rfl) rfl rfl (vHc (by simp only [List.take_length]; rfl) vHn) rfl rfl ⟨k, sp, hk, hsp, rfl, rfl⟩)
theorem spec_BasePoints_con (p : Int) (c d : List Int) (hc6 : c.length = 6) (hd6 : d.length = 6) : Con Try.prog [] 59 [.int p, .arr c, .arr d] [] (listR 3 64 [] 0 (pencB p (pointB p c && pointB p d) c d) (((allPts p).filter fun m => (conV p c m == 0) && (conV p d m == 0)))) := by
  refine conW tab_ok [(0, .int p), (1, .arr c), (2, .arr d)] 0 [] [] Try.func59 rfl rfl rfl rfl rfl rfl rfl rfl rfl ?_
  refine CW_seq ?_
  refine CW_region ?_
  refine oBox rfl rfl rfl rfl rfl rfl ?_
  refine oBox rfl rfl rfl rfl rfl rfl ?_
  refine oQ (Q_assign rfl rfl) rfl rfl ?_
  refine oQ (Q_assign rfl rfl) rfl rfl ?_
  refine OW_nil ?_
  all_goals with_reducible refine tN ?_
  all_goals (
      refine CW_seq ?_
      refine CW_seq ?_
      refine CW_region ?_
      refine oQ (Q_move rfl rfl) rfl rfl ?_
      refine oQ (Q_ldw rfl rfl rfl rfl hc6) rfl rfl ?_
      refine oQ (Q_ldw rfl rfl rfl rfl hd6) rfl rfl ?_
      refine oQ (Q_call0 (l04Pencil_nil p c d hc6 hd6) rfl rfl rfl) rfl rfl ?_
      refine oQ (Q_assign rfl rfl) rfl rfl ?_
      refine OW_nil ?_
      all_goals with_reducible refine tN ?_
      all_goals (
          refine CW_seq ?_
          refine CW_region ?_
          refine oQ (Q_move rfl rfl) rfl rfl ?_
          refine oQ (Q_bin rfl rfl rfl) rfl rfl ?_
          refine OW_nil ?_
          all_goals with_reducible refine tN ?_
          all_goals (
              first | refine CW_cond_t rfl (by with_reducible rfl) ?_ | refine CW_cond_f rfl (by with_reducible rfl) ?_ | refine CW_cond rfl (fun hc => ?_) (fun hc => ?_)
              all_goals try simp only [decide_eq_true_eq, decide_eq_false_iff_not, beq_iff_eq, beq_eq_false_iff_ne, bne_iff_ne, bne_eq_false_iff_eq, Bool.not_eq_true', Bool.not_eq_false', Int.not_lt, Int.not_le, ne_eq, not_false_eq_true] at hc
              all_goals first
                | (
                  refine CW_skip ?_)
                | (
                  refine CW_seq ?_
                  refine CW_region ?_
                  refine oQ (Q_move rfl rfl) rfl rfl ?_
                  refine oQ (Q_assign rfl rfl) rfl rfl ?_
                  refine oQ (Q_assign rfl rfl) rfl rfl ?_
                  refine OW_nil ?_
                  all_goals with_reducible refine tN ?_
                  all_goals (
                      refine CW_ret ?_))))
      all_goals first
        | with_reducible refine tR ?_
        | with_reducible refine tE ?_
        | (
          with_reducible refine tN ?_
          refine CW_seq ?_
          refine CW_region ?_
          refine oQ (Q_move rfl rfl) rfl rfl ?_
          refine oQ (Q_ldw rfl rfl rfl rfl hc6) rfl rfl ?_
          refine oQ (Q_ldw rfl rfl rfl rfl hd6) rfl rfl ?_
          (have hc0 : pencB p (pointB p c && pointB p d) c d = 0 := hc)
          (have hcc := pencB_zero hc0)
          (have hcb := Bool.and_eq_true_iff.1 hcc.2)
          refine oCall (l04Common_con p c d hcc.1 hc6 hd6 (pointB_mod hcb.1) (pointB_mod hcb.2)) [] 1 rfl rfl (Fits.mk' vHn rfl rfl (by simp)) rfl rfl ?_
          rintro r H1 ⟨k, sp, hk, hsp, rfl, rfl⟩
          refine ⟨.slice 2 0 (((allPts p).filter fun m => (conV p c m == 0) && (conV p d m == 0))).length k, [(2, .ints 64 ((((allPts p).filter fun m => (conV p c m == 0) && (conV p d m == 0))).flatten ++ sp))], rfl, rfl, rfl, ?_⟩
          refine oQ (Q_assign rfl rfl) rfl rfl ?_
          refine oQ (Q_assign rfl rfl) rfl rfl ?_
          refine OW_nil ?_
          all_goals with_reducible refine tN ?_
          all_goals (
              refine CW_ret ?_)))
  all_goals (
      first
        | exact exitH (r0 := .tuple [.nilsl, .int (pencB p (pointB p c && pointB p d) c d)]) (H0 := []) (.inr rfl) [] 0 (.cons (.tmp rfl rfl) (.cons (.tmp rfl rfl) .nil)) rfl rfl rfl vHn rfl rfl (listR_no hc rfl rfl)
        | exact exitH (r0 := .tuple [.slice 0 0 (((allPts p).filter fun m => (conV p c m == 0) && (conV p d m == 0))).length k, .int 0]) (H0 := [(0, .ints 64 ((((allPts p).filter fun m => (conV p c m == 0) && (conV p d m == 0))).flatten ++ sp))]) (.inr rfl) [(0, 2)] 1 (.cons (.tmp rfl rfl) (.cons (.tmp rfl rfl) .nil)) rfl rfl rfl (vHc rfl vHn) rfl rfl (listR_ok hc0 hk hsp rfl rfl))
end Go.Proofs.Ytgfncdejnjikpaa
