/- The laws of functions of numbers and arrays that answer an array, and a code. Printed by gen_l5.py. -/
import Derived.Test.YtgfncdejnjikpaaB6
import Derived.Test.YtgfncdejnjikpaaQ7
namespace Go.Proofs.Ytgfncdejnjikpaa
attribute [local irreducible] CW OW QW QOp Con thenP inBlockP AW QX RW
set_option maxRecDepth 10000
set_option linter.unusedSimpArgs false
set_option linter.unusedVariables false
theorem eqConic_same (a : List Int) (ha : a.length = 6) : ConQ Try.prog [] 53 [.arr a, .arr a] [] (.bool true) := by
  have := eqConic_con a a ha ha
  simpa using this
theorem eqLine_same (a : List Int) (ha : a.length = 3) : ConQ Try.prog [] 45 [.arr a, .arr a] [] (.bool true) := by
  have := eqLine_con a a ha ha
  simpa using this
theorem eqPoint_same (a : List Int) (ha : a.length = 3) : ConQ Try.prog [] 84 [.arr a, .arr a] [] (.bool true) := by
  have := eqPoint_con a a ha ha
  simpa using this
theorem law_FnExactTangentAt (p : Int) (c : List Int) (a : List Int) (qlc : c.length = 6) (qla : a.length = 3) : ConQ Try.prog [] 9 [.int p, .arr c, .arr a] [] (.bool true) := by
  have hvl : (tanV p c a).length = 3 := by unfold tanV; split; (rw [normL_length]; rfl); rfl
  have hsp := spec_TangentAt_con p c a qlc qla
  have him := impl_TangentAt_con p c a qlc qla
  generalize tanV p c a = vv at *
  generalize tanC p c a = cc at *
  refine conW tab_ok [(0, .int p), (1, .arr c), (2, .arr a)] 0 [] [] Try.func9 rfl rfl rfl rfl rfl rfl rfl rfl rfl ?_
  refine CW_seq ?_
  refine CW_region ?_
  refine oBox rfl rfl rfl rfl rfl rfl ?_
  refine oBox rfl rfl rfl rfl rfl rfl ?_
  refine oQ (Q_assign rfl rfl) rfl rfl ?_
  refine OW_nil ?_
  all_goals with_reducible refine tN ?_
  all_goals (
      refine CW_seq ?_
      refine CW_any (fun i => List.elem i [10, 11]) 12 rfl lateOk (by decide +kernel) (fun hst => ?_)
      refine aQ 0 hst rfl rfl (by decide +kernel) (QX_of (Q_move rfl rfl) NE_move) rfl rfl ?_
      first | refine aQ 1 hst rfl rfl (by decide +kernel) (QX_of (Q_ldw rfl rfl rfl rfl (by first | omega | (dsimp only; omega) | (simp; omega) | (simp; done))) NE_load) rfl rfl ?_ | refine aQ 1 hst rfl rfl (by decide +kernel) (QX_of (Q_lda rfl rfl rfl rfl rfl (by first | omega | (dsimp only; omega) | (simp; omega) | (simp; done))) NE_load) rfl rfl ?_
      refine aQ 2 hst rfl rfl (by decide +kernel) (QX_call0 (toConic_con _ qlc) rfl rfl rfl) rfl rfl ?_
      first | refine aQ 3 hst rfl rfl (by decide +kernel) (QX_of (Q_ldw rfl rfl rfl rfl (by first | omega | (dsimp only; omega) | (simp; omega) | (simp; done))) NE_load) rfl rfl ?_ | refine aQ 3 hst rfl rfl (by decide +kernel) (QX_of (Q_lda rfl rfl rfl rfl rfl (by first | omega | (dsimp only; omega) | (simp; omega) | (simp; done))) NE_load) rfl rfl ?_
      refine aQ 4 hst rfl rfl (by decide +kernel) (QX_call0 (toPoint_con _ qla) rfl rfl rfl) rfl rfl ?_
      refine aQ 5 hst rfl rfl (by decide +kernel) (QX_call0 (hsp) rfl rfl rfl) rfl rfl ?_
      refine aQ 6 hst rfl rfl (by decide +kernel) (QX_of (Q_move rfl rfl) NE_move) rfl rfl ?_
      refine aExt 7 hst rfl rfl (by decide +kernel) rfl rfl rfl rfl ?_
      refine aExt 8 hst rfl rfl (by decide +kernel) rfl rfl rfl rfl ?_
      refine AW_one (i := 9) (by decide +kernel) ?_
      refine gAlloc rfl rfl rfl rfl rfl rfl rfl rfl rfl ?_
      refine AW_last [10, 11] rfl (by decide +kernel) rfl ?_
      first | refine oStw rfl rfl rfl rfl (by first | omega | (dsimp only; omega) | (simp; omega) | (simp; done)) (by first | omega | (dsimp only; omega) | (simp; omega) | (simp; done)) ?_ | refine oSta rfl rfl rfl rfl (by first | omega | (dsimp only; omega) | (simp; omega) | (simp; done)) (by first | omega | (dsimp only; omega) | (simp; omega) | (simp; done)) ?_
      refine oQ (Q_assign rfl rfl) rfl rfl ?_
      refine OW_nil (npN ?_)
      all_goals with_reducible refine tN ?_
      all_goals (
          refine CW_seq ?_
          refine CW_any (fun i => List.elem i [10, 11]) 12 rfl lateOk (by decide +kernel) (fun hst => ?_)
          refine aQ 0 hst rfl rfl (by decide +kernel) (QX_of (Q_move rfl rfl) NE_move) rfl rfl ?_
          first | refine aQ 1 hst rfl rfl (by decide +kernel) (QX_of (Q_ldw rfl rfl rfl rfl (by first | omega | (dsimp only; omega) | (simp; omega) | (simp; done))) NE_load) rfl rfl ?_ | refine aQ 1 hst rfl rfl (by decide +kernel) (QX_of (Q_lda rfl rfl rfl rfl rfl (by first | omega | (dsimp only; omega) | (simp; omega) | (simp; done))) NE_load) rfl rfl ?_
          refine aQ 2 hst rfl rfl (by decide +kernel) (QX_call0 (toConic_con _ qlc) rfl rfl rfl) rfl rfl ?_
          first | refine aQ 3 hst rfl rfl (by decide +kernel) (QX_of (Q_ldw rfl rfl rfl rfl (by first | omega | (dsimp only; omega) | (simp; omega) | (simp; done))) NE_load) rfl rfl ?_ | refine aQ 3 hst rfl rfl (by decide +kernel) (QX_of (Q_lda rfl rfl rfl rfl rfl (by first | omega | (dsimp only; omega) | (simp; omega) | (simp; done))) NE_load) rfl rfl ?_
          refine aQ 4 hst rfl rfl (by decide +kernel) (QX_call0 (toPoint_con _ qla) rfl rfl rfl) rfl rfl ?_
          refine aQ 5 hst rfl rfl (by decide +kernel) (QX_call0 (him) rfl rfl rfl) rfl rfl ?_
          refine aQ 6 hst rfl rfl (by decide +kernel) (QX_of (Q_move rfl rfl) NE_move) rfl rfl ?_
          refine aExt 7 hst rfl rfl (by decide +kernel) rfl rfl rfl rfl ?_
          refine aExt 8 hst rfl rfl (by decide +kernel) rfl rfl rfl rfl ?_
          refine AW_one (i := 9) (by decide +kernel) ?_
          refine gAlloc rfl rfl rfl rfl rfl rfl rfl rfl rfl ?_
          refine AW_last [10, 11] rfl (by decide +kernel) rfl ?_
          first | refine oStw rfl rfl rfl rfl (by first | omega | (dsimp only; omega) | (simp; omega) | (simp; done)) (by first | omega | (dsimp only; omega) | (simp; omega) | (simp; done)) ?_ | refine oSta rfl rfl rfl rfl (by first | omega | (dsimp only; omega) | (simp; omega) | (simp; done)) (by first | omega | (dsimp only; omega) | (simp; omega) | (simp; done)) ?_
          refine oQ (Q_assign rfl rfl) rfl rfl ?_
          refine OW_nil (npN ?_)
          all_goals with_reducible refine tN ?_
          all_goals (
              refine CW_seq ?_
              refine CW_seq ?_
              refine CW_region ?_
              first | refine oQ (Q_ldw rfl rfl rfl rfl (by first | omega | (dsimp only; omega) | (simp; omega) | (simp; done))) rfl rfl ?_ | refine oQ (Q_lda rfl rfl rfl rfl rfl (by first | omega | (dsimp only; omega) | (simp; omega) | (simp; done))) rfl rfl ?_
              first | refine oQ (Q_ldw rfl rfl rfl rfl (by first | omega | (dsimp only; omega) | (simp; omega) | (simp; done))) rfl rfl ?_ | refine oQ (Q_lda rfl rfl rfl rfl rfl (by first | omega | (dsimp only; omega) | (simp; omega) | (simp; done))) rfl rfl ?_
              refine oQ (Q_call0 (eqLine_same vv hvl) rfl rfl rfl) rfl rfl ?_
              refine oQ (Q_not rfl) rfl rfl ?_
              refine oQ (Q_move rfl rfl) rfl rfl ?_
              all_goals first | refine ogT rfl rfl (by with_reducible rfl) ?_ | refine og1 rfl rfl (by with_reducible rfl) rfl ?_ | refine og0 rfl rfl (by with_reducible rfl) rfl ?_ | refine ogP1 rfl rfl rfl (fun hg => ?_) (fun hg => ?_) | refine ogP0 rfl rfl rfl (fun hg => ?_) (fun hg => ?_)
              all_goals try simp only [decide_eq_true_eq, decide_eq_false_iff_not, beq_iff_eq, beq_eq_false_iff_ne, bne_iff_ne, bne_eq_false_iff_eq, Bool.not_eq_true', Bool.not_eq_false', Int.not_lt, Int.not_le, ne_eq, not_false_eq_true] at hg
              all_goals first | (refine oQ (Q_move rfl rfl) rfl rfl ?_) | skip
              all_goals first | refine ogT rfl rfl (by with_reducible rfl) ?_ | refine og1 rfl rfl (by with_reducible rfl) rfl ?_ | refine og0 rfl rfl (by with_reducible rfl) rfl ?_ | refine ogP1 rfl rfl rfl (fun hg => ?_) (fun hg => ?_) | refine ogP0 rfl rfl rfl (fun hg => ?_) (fun hg => ?_)
              all_goals try simp only [decide_eq_true_eq, decide_eq_false_iff_not, beq_iff_eq, beq_eq_false_iff_ne, bne_iff_ne, bne_eq_false_iff_eq, Bool.not_eq_true', Bool.not_eq_false', Int.not_lt, Int.not_le, ne_eq, not_false_eq_true] at hg
              all_goals first | (refine oQ (Q_move rfl rfl) rfl rfl ?_) | skip
              all_goals first | refine ogT rfl rfl (by with_reducible rfl) ?_ | refine og1 rfl rfl (by with_reducible rfl) rfl ?_ | refine og0 rfl rfl (by with_reducible rfl) rfl ?_ | refine ogP1 rfl rfl rfl (fun hg => ?_) (fun hg => ?_) | refine ogP0 rfl rfl rfl (fun hg => ?_) (fun hg => ?_)
              all_goals try simp only [decide_eq_true_eq, decide_eq_false_iff_not, beq_iff_eq, beq_eq_false_iff_ne, bne_iff_ne, bne_eq_false_iff_eq, Bool.not_eq_true', Bool.not_eq_false', Int.not_lt, Int.not_le, ne_eq, not_false_eq_true] at hg
              all_goals first | (refine oQ (Q_bin rfl rfl rfl) rfl rfl ?_) | skip
              all_goals first | refine oQ (Q_pick_t rfl (by with_reducible rfl) rfl rfl) rfl rfl ?_ | refine oQ (Q_pick_f rfl (by with_reducible rfl) rfl rfl) rfl rfl ?_
              all_goals refine OW_nil ?_
              all_goals with_reducible refine tN ?_
              all_goals (
                  first | refine CW_cond_t rfl (by with_reducible rfl) ?_ | refine CW_cond_f rfl (by with_reducible rfl) ?_ | refine CW_cond rfl (fun hc => ?_) (fun hc => ?_)
                  all_goals try simp only [decide_eq_true_eq, decide_eq_false_iff_not, beq_iff_eq, beq_eq_false_iff_ne, bne_iff_ne, bne_eq_false_iff_eq, Bool.not_eq_true', Bool.not_eq_false', Int.not_lt, Int.not_le, ne_eq, not_false_eq_true] at hc
                  all_goals try (exfalso; first | omega | (simp at hc; done); done)
                  all_goals first
                    | (
                      refine CW_skip ?_)
                    | (
                      refine CW_seq ?_
                      refine CW_region ?_
                      refine oQ (Q_assign rfl rfl) rfl rfl ?_
                      refine OW_nil ?_
                      all_goals with_reducible refine tN ?_
                      all_goals (
                          refine CW_ret ?_)))
              all_goals first
                | with_reducible refine tR ?_
                | with_reducible refine tE ?_
                | (
                  with_reducible refine tN ?_
                  refine CW_seq ?_
                  refine CW_region ?_
                  refine oQ (Q_assign rfl rfl) rfl rfl ?_
                  refine OW_nil ?_
                  all_goals with_reducible refine tN ?_
                  all_goals (
                      refine CW_ret ?_)))))
  all_goals (
      first | ((refine exitQ (.inr rfl) 0 (.cons (.tmp rfl rfl) .nil) ?_ rfl vHn rfl rfl); rfl) | (exfalso; simp at hg; done) | (exfalso; simp_all; done))
theorem law_FnExactMemberThrough (p : Int) (c : List Int) (d : List Int) (a : List Int) (qlc : c.length = 6) (qld : d.length = 6) (qla : a.length = 3) : ConQ Try.prog [] 11 [.int p, .arr c, .arr d, .arr a] [] (.bool true) := by
  have hvl : (mthV p c d a).length = 6 := by unfold mthV; split; (rw [normL_length, memL_length]); rfl
  have hsp := spec_MemberThrough_con p c d a qlc qld qla
  have him := impl_MemberThrough_con p c d a qlc qld qla
  generalize mthV p c d a = vv at *
  generalize mthC p c d a = cc at *
  refine conW tab_ok [(0, .int p), (1, .arr c), (2, .arr d), (3, .arr a)] 0 [] [] Try.func11 rfl rfl rfl rfl rfl rfl rfl rfl rfl ?_
  refine CW_seq ?_
  refine CW_region ?_
  refine oBox rfl rfl rfl rfl rfl rfl ?_
  refine oBox rfl rfl rfl rfl rfl rfl ?_
  refine oBox rfl rfl rfl rfl rfl rfl ?_
  refine oQ (Q_assign rfl rfl) rfl rfl ?_
  refine OW_nil ?_
  all_goals with_reducible refine tN ?_
  all_goals (
      refine CW_seq ?_
      refine CW_any (fun i => List.elem i [12, 13]) 14 rfl lateOk (by decide +kernel) (fun hst => ?_)
      refine aQ 0 hst rfl rfl (by decide +kernel) (QX_of (Q_move rfl rfl) NE_move) rfl rfl ?_
      first | refine aQ 1 hst rfl rfl (by decide +kernel) (QX_of (Q_ldw rfl rfl rfl rfl (by first | omega | (dsimp only; omega) | (simp; omega) | (simp; done))) NE_load) rfl rfl ?_ | refine aQ 1 hst rfl rfl (by decide +kernel) (QX_of (Q_lda rfl rfl rfl rfl rfl (by first | omega | (dsimp only; omega) | (simp; omega) | (simp; done))) NE_load) rfl rfl ?_
      refine aQ 2 hst rfl rfl (by decide +kernel) (QX_call0 (toConic_con _ qlc) rfl rfl rfl) rfl rfl ?_
      first | refine aQ 3 hst rfl rfl (by decide +kernel) (QX_of (Q_ldw rfl rfl rfl rfl (by first | omega | (dsimp only; omega) | (simp; omega) | (simp; done))) NE_load) rfl rfl ?_ | refine aQ 3 hst rfl rfl (by decide +kernel) (QX_of (Q_lda rfl rfl rfl rfl rfl (by first | omega | (dsimp only; omega) | (simp; omega) | (simp; done))) NE_load) rfl rfl ?_
      refine aQ 4 hst rfl rfl (by decide +kernel) (QX_call0 (toConic_con _ qld) rfl rfl rfl) rfl rfl ?_
      first | refine aQ 5 hst rfl rfl (by decide +kernel) (QX_of (Q_ldw rfl rfl rfl rfl (by first | omega | (dsimp only; omega) | (simp; omega) | (simp; done))) NE_load) rfl rfl ?_ | refine aQ 5 hst rfl rfl (by decide +kernel) (QX_of (Q_lda rfl rfl rfl rfl rfl (by first | omega | (dsimp only; omega) | (simp; omega) | (simp; done))) NE_load) rfl rfl ?_
      refine aQ 6 hst rfl rfl (by decide +kernel) (QX_call0 (toPoint_con _ qla) rfl rfl rfl) rfl rfl ?_
      refine aQ 7 hst rfl rfl (by decide +kernel) (QX_call0 (hsp) rfl rfl rfl) rfl rfl ?_
      refine aQ 8 hst rfl rfl (by decide +kernel) (QX_of (Q_move rfl rfl) NE_move) rfl rfl ?_
      refine aExt 9 hst rfl rfl (by decide +kernel) rfl rfl rfl rfl ?_
      refine aExt 10 hst rfl rfl (by decide +kernel) rfl rfl rfl rfl ?_
      refine AW_one (i := 11) (by decide +kernel) ?_
      refine gAlloc rfl rfl rfl rfl rfl rfl rfl rfl rfl ?_
      refine AW_last [12, 13] rfl (by decide +kernel) rfl ?_
      first | refine oStw rfl rfl rfl rfl (by first | omega | (dsimp only; omega) | (simp; omega) | (simp; done)) (by first | omega | (dsimp only; omega) | (simp; omega) | (simp; done)) ?_ | refine oSta rfl rfl rfl rfl (by first | omega | (dsimp only; omega) | (simp; omega) | (simp; done)) (by first | omega | (dsimp only; omega) | (simp; omega) | (simp; done)) ?_
      refine oQ (Q_assign rfl rfl) rfl rfl ?_
      refine OW_nil (npN ?_)
      all_goals with_reducible refine tN ?_
      all_goals (
          refine CW_seq ?_
          refine CW_any (fun i => List.elem i [12, 13]) 14 rfl lateOk (by decide +kernel) (fun hst => ?_)
          refine aQ 0 hst rfl rfl (by decide +kernel) (QX_of (Q_move rfl rfl) NE_move) rfl rfl ?_
          first | refine aQ 1 hst rfl rfl (by decide +kernel) (QX_of (Q_ldw rfl rfl rfl rfl (by first | omega | (dsimp only; omega) | (simp; omega) | (simp; done))) NE_load) rfl rfl ?_ | refine aQ 1 hst rfl rfl (by decide +kernel) (QX_of (Q_lda rfl rfl rfl rfl rfl (by first | omega | (dsimp only; omega) | (simp; omega) | (simp; done))) NE_load) rfl rfl ?_
          refine aQ 2 hst rfl rfl (by decide +kernel) (QX_call0 (toConic_con _ qlc) rfl rfl rfl) rfl rfl ?_
          first | refine aQ 3 hst rfl rfl (by decide +kernel) (QX_of (Q_ldw rfl rfl rfl rfl (by first | omega | (dsimp only; omega) | (simp; omega) | (simp; done))) NE_load) rfl rfl ?_ | refine aQ 3 hst rfl rfl (by decide +kernel) (QX_of (Q_lda rfl rfl rfl rfl rfl (by first | omega | (dsimp only; omega) | (simp; omega) | (simp; done))) NE_load) rfl rfl ?_
          refine aQ 4 hst rfl rfl (by decide +kernel) (QX_call0 (toConic_con _ qld) rfl rfl rfl) rfl rfl ?_
          first | refine aQ 5 hst rfl rfl (by decide +kernel) (QX_of (Q_ldw rfl rfl rfl rfl (by first | omega | (dsimp only; omega) | (simp; omega) | (simp; done))) NE_load) rfl rfl ?_ | refine aQ 5 hst rfl rfl (by decide +kernel) (QX_of (Q_lda rfl rfl rfl rfl rfl (by first | omega | (dsimp only; omega) | (simp; omega) | (simp; done))) NE_load) rfl rfl ?_
          refine aQ 6 hst rfl rfl (by decide +kernel) (QX_call0 (toPoint_con _ qla) rfl rfl rfl) rfl rfl ?_
          refine aQ 7 hst rfl rfl (by decide +kernel) (QX_call0 (him) rfl rfl rfl) rfl rfl ?_
          refine aQ 8 hst rfl rfl (by decide +kernel) (QX_of (Q_move rfl rfl) NE_move) rfl rfl ?_
          refine aExt 9 hst rfl rfl (by decide +kernel) rfl rfl rfl rfl ?_
          refine aExt 10 hst rfl rfl (by decide +kernel) rfl rfl rfl rfl ?_
          refine AW_one (i := 11) (by decide +kernel) ?_
          refine gAlloc rfl rfl rfl rfl rfl rfl rfl rfl rfl ?_
          refine AW_last [12, 13] rfl (by decide +kernel) rfl ?_
          first | refine oStw rfl rfl rfl rfl (by first | omega | (dsimp only; omega) | (simp; omega) | (simp; done)) (by first | omega | (dsimp only; omega) | (simp; omega) | (simp; done)) ?_ | refine oSta rfl rfl rfl rfl (by first | omega | (dsimp only; omega) | (simp; omega) | (simp; done)) (by first | omega | (dsimp only; omega) | (simp; omega) | (simp; done)) ?_
          refine oQ (Q_assign rfl rfl) rfl rfl ?_
          refine OW_nil (npN ?_)
          all_goals with_reducible refine tN ?_
          all_goals (
              refine CW_seq ?_
              refine CW_seq ?_
              refine CW_region ?_
              first | refine oQ (Q_ldw rfl rfl rfl rfl (by first | omega | (dsimp only; omega) | (simp; omega) | (simp; done))) rfl rfl ?_ | refine oQ (Q_lda rfl rfl rfl rfl rfl (by first | omega | (dsimp only; omega) | (simp; omega) | (simp; done))) rfl rfl ?_
              first | refine oQ (Q_ldw rfl rfl rfl rfl (by first | omega | (dsimp only; omega) | (simp; omega) | (simp; done))) rfl rfl ?_ | refine oQ (Q_lda rfl rfl rfl rfl rfl (by first | omega | (dsimp only; omega) | (simp; omega) | (simp; done))) rfl rfl ?_
              refine oQ (Q_call0 (eqConic_same vv hvl) rfl rfl rfl) rfl rfl ?_
              refine oQ (Q_not rfl) rfl rfl ?_
              refine oQ (Q_move rfl rfl) rfl rfl ?_
              all_goals first | refine ogT rfl rfl (by with_reducible rfl) ?_ | refine og1 rfl rfl (by with_reducible rfl) rfl ?_ | refine og0 rfl rfl (by with_reducible rfl) rfl ?_ | refine ogP1 rfl rfl rfl (fun hg => ?_) (fun hg => ?_) | refine ogP0 rfl rfl rfl (fun hg => ?_) (fun hg => ?_)
              all_goals try simp only [decide_eq_true_eq, decide_eq_false_iff_not, beq_iff_eq, beq_eq_false_iff_ne, bne_iff_ne, bne_eq_false_iff_eq, Bool.not_eq_true', Bool.not_eq_false', Int.not_lt, Int.not_le, ne_eq, not_false_eq_true] at hg
              all_goals first | (refine oQ (Q_move rfl rfl) rfl rfl ?_) | skip
              all_goals first | refine ogT rfl rfl (by with_reducible rfl) ?_ | refine og1 rfl rfl (by with_reducible rfl) rfl ?_ | refine og0 rfl rfl (by with_reducible rfl) rfl ?_ | refine ogP1 rfl rfl rfl (fun hg => ?_) (fun hg => ?_) | refine ogP0 rfl rfl rfl (fun hg => ?_) (fun hg => ?_)
              all_goals try simp only [decide_eq_true_eq, decide_eq_false_iff_not, beq_iff_eq, beq_eq_false_iff_ne, bne_iff_ne, bne_eq_false_iff_eq, Bool.not_eq_true', Bool.not_eq_false', Int.not_lt, Int.not_le, ne_eq, not_false_eq_true] at hg
              all_goals first | (refine oQ (Q_move rfl rfl) rfl rfl ?_) | skip
              all_goals first | refine ogT rfl rfl (by with_reducible rfl) ?_ | refine og1 rfl rfl (by with_reducible rfl) rfl ?_ | refine og0 rfl rfl (by with_reducible rfl) rfl ?_ | refine ogP1 rfl rfl rfl (fun hg => ?_) (fun hg => ?_) | refine ogP0 rfl rfl rfl (fun hg => ?_) (fun hg => ?_)
              all_goals try simp only [decide_eq_true_eq, decide_eq_false_iff_not, beq_iff_eq, beq_eq_false_iff_ne, bne_iff_ne, bne_eq_false_iff_eq, Bool.not_eq_true', Bool.not_eq_false', Int.not_lt, Int.not_le, ne_eq, not_false_eq_true] at hg
              all_goals first | (refine oQ (Q_bin rfl rfl rfl) rfl rfl ?_) | skip
              all_goals first | refine oQ (Q_pick_t rfl (by with_reducible rfl) rfl rfl) rfl rfl ?_ | refine oQ (Q_pick_f rfl (by with_reducible rfl) rfl rfl) rfl rfl ?_
              all_goals refine OW_nil ?_
              all_goals with_reducible refine tN ?_
              all_goals (
                  first | refine CW_cond_t rfl (by with_reducible rfl) ?_ | refine CW_cond_f rfl (by with_reducible rfl) ?_ | refine CW_cond rfl (fun hc => ?_) (fun hc => ?_)
                  all_goals try simp only [decide_eq_true_eq, decide_eq_false_iff_not, beq_iff_eq, beq_eq_false_iff_ne, bne_iff_ne, bne_eq_false_iff_eq, Bool.not_eq_true', Bool.not_eq_false', Int.not_lt, Int.not_le, ne_eq, not_false_eq_true] at hc
                  all_goals try (exfalso; first | omega | (simp at hc; done); done)
                  all_goals first
                    | (
                      refine CW_skip ?_)
                    | (
                      refine CW_seq ?_
                      refine CW_region ?_
                      refine oQ (Q_assign rfl rfl) rfl rfl ?_
                      refine OW_nil ?_
                      all_goals with_reducible refine tN ?_
                      all_goals (
                          refine CW_ret ?_)))
              all_goals first
                | with_reducible refine tR ?_
                | with_reducible refine tE ?_
                | (
                  with_reducible refine tN ?_
                  refine CW_seq ?_
                  refine CW_region ?_
                  refine oQ (Q_assign rfl rfl) rfl rfl ?_
                  refine OW_nil ?_
                  all_goals with_reducible refine tN ?_
                  all_goals (
                      refine CW_ret ?_)))))
  all_goals (
      first | ((refine exitQ (.inr rfl) 0 (.cons (.tmp rfl rfl) .nil) ?_ rfl vHn rfl rfl); rfl) | (exfalso; simp at hg; done) | (exfalso; simp_all; done))
end Go.Proofs.Ytgfncdejnjikpaa
