/- The law FnExactPolarTriangle returns true for every input. No conditions. -/
import Derived.Test.YtoiolpgmilobnaaRows
import Derived.Test.YtoiolpgmilobnaaBPolarTriangleI
namespace Go.Proofs.Ytoiolpgmilobnaa.fnExactPolarTriangle
open Go.ChangeShapes Go.WideShapes Go.ChangeAt Go.RowKit
set_option linter.unusedVariables false
theorem own : ownKnob Try.prog.godebug = none := by kernel_rfl
theorem laidOut : laidOutB Try.prog = true := by kernel_rfl
theorem und2 : Try.prog.underlying 2 = some (.int .i64) := by kernel_rfl
theorem und22 : Try.prog.underlying 22 = some (.array 6 2) := by kernel_rfl
theorem und31 : Try.prog.underlying 31 = some (.array 3 2) := by kernel_rfl
theorem undb : Try.prog.underlying 4 = some .bool := by kernel_rfl
theorem pars : Try.f6.params.toList = [2, 22, 31] := by kernel_rfl
set_option maxRecDepth 100000 in
theorem lifted (os : Os) (started : os.Started) (H : Type) (enc : TypeId × Value → H) :
    ReturnsInHanded {} Try.checked os 6 .any (Rows.fnExactPolarTriangleSpec.pre6 enc Try.prog Try.f6 Rows.fnExactPolarTriangleRow.domain false) (Rows.fnExactPolarTriangleSpec.post enc Try.prog Try.f6 false true false false) := by
  refine returnsInHanded_of_change_sized (C := Try.checked) own started (by kernel_rfl) Try.func6
    (ChangeSpec.witness6 (enc := enc) (C := Try.checked) false ⟨#[], #[.int .i64 0, .agg #[.int .i64 0, .int .i64 0, .int .i64 0, .int .i64 0, .int .i64 0, .int .i64 0], .agg #[.int .i64 0, .int .i64 0, .int .i64 0]], []⟩ 8 (by kernel_rfl) (by kernel_rfl) (by kernel_rfl) (by kernel_rfl)) ?_
  intro W base args ds gs before hval0 hW hcnd hsz0 _
  have hval : ∀ (j : Nat) t v, Try.f6.params.toList[j]? = some t → args[j]? = some v → Value.okWide Try.prog W .any base t v := fun j t v h => hval0 j t v (by rwa [Array.getElem?_toList] at h)
  have hW' := hW
  obtain ⟨p, q, hA0, hV, rfl, hfz, hnd⟩ := hW
  have hA : DataW.TrodAll enc Try.prog W 0 (fun _ => true) true Try.f6.params.toList args.toList ds p := hA0
  rw [pars] at hA hval
  obtain ⟨v0, vs0, d0, ds0, p0, q0, hargs, rfl, rfl, h0, r0⟩ := trodAll_cons hA
  obtain ⟨v1, vs1, d1, ds1, p1, q1, rfl, rfl, rfl, h1, r1⟩ := trodAll_cons r0
  obtain ⟨v2, vs2, d2, ds2, p2, q2, rfl, rfl, rfl, h2, r2⟩ := trodAll_cons r1
  obtain ⟨rfl, rfl, rfl⟩ := trodAll_nil r2
  obtain rfl : args = #[v0, v1, v2] := by cases args; simp_all
  obtain ⟨rfl, rfl⟩ := trodVars_none hV
  have k0 := h0
  have lt0 : ∀ x ∈ p0, x.block < W.heap.size := by obtain ⟨m, hm⟩ := k0; exact DataW.trod_lt m _ _ _ hm
  have k1 := h1
  have lt1 : ∀ x ∈ p1, x.block < W.heap.size := by obtain ⟨m, hm⟩ := k1; exact DataW.trod_lt m _ _ _ hm
  have k2 := h2
  have lt2 : ∀ x ∈ p2, x.block < W.heap.size := by obtain ⟨m, hm⟩ := k2; exact DataW.trod_lt m _ _ _ hm
  obtain ⟨a0, rfl, rfl, rfl, w0⟩ := open_int und2 (hval 0 2 v0 rfl rfl) h0
  obtain ⟨a1, rfl, l1, z1⟩ := open_arr64 (m := 6) (ts := [2, 2, 2, 2, 2, 2]) und22 (by kernel_rfl) (by kernel_rfl) (by kernel_rfl) (hval 1 22 v1 rfl rfl)
  obtain ⟨a2, rfl, l2, z2⟩ := open_arr64 (m := 3) (ts := [2, 2, 2]) und31 (by kernel_rfl) (by kernel_rfl) (by kernel_rfl) (hval 2 31 v2 rfl rfl)
  clear hA0 hval0 hsz0
  have hc := calls_law (ρ := fun b => b) (W := W) (law_FnExactPolarTriangle a0 a1 a2 l1 l2) rfl HR_nil
  refine hc.mono fun e W' ⟨he, bel⟩ => ?_
  subst he
  exact ⟨_, rfl, _, _, _, [], _, [], hW', trodAll_mk1 (shut_bool undb _), (trodAll_cons_mk (shut_int und2 w0) (trodAll_cons_mk (Below.trod laidOut (by kernel_rfl) (of_decide_eq_true (by kernel_rfl)) k1 bel lt1) (trodAll_cons_mk (Below.trod laidOut (by kernel_rfl) (of_decide_eq_true (by kernel_rfl)) k2 bel lt2) trodAll_mk0))), rfl, bel.frame _, fun h => by cases h⟩
theorem over : Rows.fnExactPolarTriangleRow.holds Try.pinned (OpenSpec.ofChange Rows.fnExactPolarTriangleSpec) :=
  OpenClaim.holds_of_wide 6 Try.f6 rfl rfl rfl rfl rfl rfl rfl ⟨rfl, rfl, rfl, rfl, rfl⟩ rfl rfl rfl rfl rfl (by kernel_rfl) Try.func6 (by kernel_rfl)
    (of_decide_eq_true (by kernel_rfl)) (by unfold Func.isWrapper; first | (rw [if_pos (by decide +kernel)]; kernel_rfl) | (rw [if_neg (by decide +kernel)]; exact ⟨rfl, rfl⟩))
    (fun os started H enc _ => lifted os started H enc)
theorem proved : Rows.FnExactPolarTriangleSaid := over
end Go.Proofs.Ytoiolpgmilobnaa.fnExactPolarTriangle
namespace Go.Proofs.Ytoiolpgmilobnaa
theorem fnExactPolarTriangle_holds : Rows.FnExactPolarTriangleSaid := fnExactPolarTriangle.proved
#print axioms fnExactPolarTriangle_holds
end Go.Proofs.Ytoiolpgmilobnaa
