/- Laws. Printed by gen_ld1.py. -/
import Derived.Test.YtendffbpmpobnaaDoorA2
import Derived.Test.YtendffbpmpobnaaDoorD1
namespace Go.Proofs.YtendffbpmpobnaaDoor
attribute [local irreducible] CW OW QW QOp Con thenP inBlockP AW QX RW
set_option maxRecDepth 10000
set_option linter.unusedSimpArgs false
set_option linter.unusedVariables false
theorem law_FnExactIsOnQuadric (p : Int) (q : List Int) (a : List Int) (qlq : q.length = 10) (qla : a.length = 4) : ConQ Tryd.prog [(0, 2000)] 3 [.int p, .arr q, .arr a] [(2000, .ro 0 sqT)] (.bool true) := by
  have hsp := spec_IsOnQuadric_con p q a qlq qla
  have him := impl_IsOnQuadric_con p q a qlq qla
  generalize iqV p q a = vv0 at *
  generalize iqC p q a = vv1 at *
  refine conW tab_ok [(0, .int p), (1, .arr q), (2, .arr a)] 0 [2000] [] Tryd.func3 rfl rfl rfl rfl rfl rfl rfl rfl rfl ?_
  refine cR ?_
  iterate 2 refine oBox rfl rfl rfl rfl rfl rfl ?_
  refine oA rfl rfl ?_
  refine oN ?_
  refine CW_seq ?_
  refine CW_draw lateOk (by decide +kernel) ?_
  refine qM rfl rfl ?_
  first | refine qQ (Lw rfl rfl rfl rfl) rfl rfl ?_ | refine qQ (La rfl rfl rfl rfl rfl) rfl rfl ?_
  refine qQ (Q_call0 (toQuadric_con _ qlq) rfl rfl rfl) rfl rfl ?_
  first | refine qQ (Lw rfl rfl rfl rfl) rfl rfl ?_ | refine qQ (La rfl rfl rfl rfl rfl) rfl rfl ?_
  refine qQ (Q_call0 (toSpot_con _ qla) rfl rfl rfl) rfl rfl ?_
  refine qQ (Q_call0 (hsp) rfl rfl rfl) rfl rfl ?_
  refine qM rfl rfl ?_
  iterate 2 refine qQ (Q_extract rfl rfl) rfl rfl ?_
  iterate 2 refine qA rfl rfl ?_
  refine QW_nil ?_
  all_goals with_reducible refine tN ?_
  all_goals (
   refine CW_seq ?_
   refine CW_draw lateOk (by decide +kernel) ?_
   refine qM rfl rfl ?_
   first | refine qQ (Lw rfl rfl rfl rfl) rfl rfl ?_ | refine qQ (La rfl rfl rfl rfl rfl) rfl rfl ?_
   refine qQ (Q_call0 (toQuadric_con _ qlq) rfl rfl rfl) rfl rfl ?_
   first | refine qQ (Lw rfl rfl rfl rfl) rfl rfl ?_ | refine qQ (La rfl rfl rfl rfl rfl) rfl rfl ?_
   refine qQ (Q_call0 (toSpot_con _ qla) rfl rfl rfl) rfl rfl ?_
   refine qQ (Q_call (him) [] rfl rfl (Fits.mk' (vHc rfl vHn) rfl rfl (by first | (simp; done) | exact glOk rfl rfl rfl)) rfl rfl) rfl rfl ?_
   refine qM rfl rfl ?_
   iterate 2 refine qQ (Q_extract rfl rfl) rfl rfl ?_
   iterate 2 refine qA rfl rfl ?_
   refine QW_nil ?_
   all_goals with_reducible refine tN ?_
   all_goals (
    refine CW_seq ?_
    refine cR ?_
    iterate 2 refine oM rfl rfl ?_
    refine oQ (Q_boolb rfl rfl rfl rfl rfl) rfl rfl ?_
    refine oM rfl rfl ?_
    all_goals first | refine oT rfl rfl ?_ | refine o1 rfl rfl rfl ?_ | refine o0 rfl rfl rfl ?_ | refine ogP1 rfl rfl rfl (fun hg => ?_) (fun hg => ?_) | refine ogP0 rfl rfl rfl (fun hg => ?_) (fun hg => ?_)
    all_goals try simp only [s1, s2, s3, s4, s5, s6, s7, s8, s9, s10, s11, s12] at hg
    all_goals first | (refine oM rfl rfl ?_) | skip
    all_goals first | refine oT rfl rfl ?_ | refine o1 rfl rfl rfl ?_ | refine o0 rfl rfl rfl ?_ | refine ogP1 rfl rfl rfl (fun hg => ?_) (fun hg => ?_) | refine ogP0 rfl rfl rfl (fun hg => ?_) (fun hg => ?_)
    all_goals try simp only [s1, s2, s3, s4, s5, s6, s7, s8, s9, s10, s11, s12] at hg
    all_goals first | (refine oM rfl rfl ?_) | skip
    all_goals first | refine oT rfl rfl ?_ | refine o1 rfl rfl rfl ?_ | refine o0 rfl rfl rfl ?_ | refine ogP1 rfl rfl rfl (fun hg => ?_) (fun hg => ?_) | refine ogP0 rfl rfl rfl (fun hg => ?_) (fun hg => ?_)
    all_goals try simp only [s1, s2, s3, s4, s5, s6, s7, s8, s9, s10, s11, s12] at hg
    all_goals first | (refine oQ (Q_bin rfl rfl rfl) rfl rfl ?_) | skip
    all_goals first | refine oQ (Q_pick_t rfl (by with_reducible rfl) rfl rfl) rfl rfl ?_ | refine oQ (Q_pick_f rfl (by with_reducible rfl) rfl rfl) rfl rfl ?_
    all_goals refine oN ?_
    all_goals (
     first | refine cT rfl ?_ | refine cF rfl ?_ | refine CW_cond rfl (fun hc => ?_) (fun hc => ?_)
     all_goals try simp only [s1, s2, s3, s4, s5, s6, s7, s8, s9, s10, s11, s12] at hc
     all_goals try (exfalso; first | omega | (simp at hc; done); done)
     all_goals first
       | (
        refine CW_skip ?_)
       | (
        refine cR ?_
        refine oA rfl rfl ?_
        refine oN ?_
        refine CW_ret ?_))
    all_goals first
      | with_reducible refine tR ?_
      | with_reducible refine tE ?_
      | (
       with_reducible refine tN ?_
       refine cR ?_
       refine oA rfl rfl ?_
       refine oN ?_
       refine CW_ret ?_)))
  all_goals (
   first | ((refine exitQ (.inr rfl) 0 (.cons (.tmp rfl rfl) .nil) ?_ rfl (vHc rfl vHn) rfl rfl); rfl) | (exfalso; simp at hg; done) | (exfalso; simp at hc; done) | (exfalso; simp_all; done))
end Go.Proofs.YtendffbpmpobnaaDoor
