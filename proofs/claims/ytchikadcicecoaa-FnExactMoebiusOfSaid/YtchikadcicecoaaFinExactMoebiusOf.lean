/- The law FnExactMoebiusOf returns true for every input. No conditions. -/
import Derived.Test.YtchikadcicecoaaRows
import Derived.Test.YtchikadcicecoaaBMoebiusOfG
namespace Go.Proofs.Ytchikadcicecoaa.fnExactMoebiusOf
open Go.ChangeShapes Go.WideShapes Go.ChangeAt Go.RowKit
set_option linter.unusedVariables false
theorem own : ownKnob Try.prog.godebug = none := by kernel_rfl
theorem laidOut : laidOutB Try.prog = true := by kernel_rfl
theorem und2 : Try.prog.underlying 2 = some (.int .i64) := by kernel_rfl
theorem und28 : Try.prog.underlying 28 = some (.slice 2) := by kernel_rfl
theorem undb : Try.prog.underlying 4 = some .bool := by kernel_rfl
theorem pars : Try.f4.params.toList = [2, 28, 28] := by kernel_rfl
set_option maxRecDepth 100000 in
theorem lifted (os : Os) (started : os.Started) (H : Type) (enc : TypeId × Value → H) :
    ReturnsInHanded {} Try.checked os 4 .any (Rows.fnExactMoebiusOfSpec.pre6 enc Try.prog Try.f4 Rows.fnExactMoebiusOfRow.domain false) (Rows.fnExactMoebiusOfSpec.post enc Try.prog Try.f4 false true false false) := by
  refine returnsInHanded_of_change_sized (C := Try.checked) own started (by kernel_rfl) Try.func4
    (ChangeSpec.witness6 (enc := enc) (C := Try.checked) false ⟨#[], #[.int .i64 0, .slice none 0 0, .slice none 0 0], []⟩ 8 (by kernel_rfl) (by kernel_rfl) (by kernel_rfl) (by kernel_rfl)) ?_
  intro W base args ds gs before hval0 hW hcnd hsz0 _
  have hval : ∀ (j : Nat) t v, Try.f4.params.toList[j]? = some t → args[j]? = some v → Value.okWide Try.prog W .any base t v := fun j t v h => hval0 j t v (by rwa [Array.getElem?_toList] at h)
  have hW' := hW
  obtain ⟨p, q, hA0, hV, rfl, hfz, hnd⟩ := hW
  have hA : DataW.TrodAll enc Try.prog W 0 (fun _ => true) true Try.f4.params.toList args.toList ds p := hA0
  rw [pars] at hA hval
  obtain ⟨v0, vs0, d0, ds0, p0, q0, hargs, rfl, rfl, h0, r0⟩ := trodAll_cons hA
  obtain ⟨v1, vs1, d1, ds1, p1, q1, rfl, rfl, rfl, h1, r1⟩ := trodAll_cons r0
  obtain ⟨v2, vs2, d2, ds2, p2, q2, rfl, rfl, rfl, h2, r2⟩ := trodAll_cons r1
  obtain ⟨rfl, rfl, rfl⟩ := trodAll_nil r2
  obtain rfl : args = #[v0, v1, v2] := by cases args; simp_all
  obtain ⟨rfl, rfl⟩ := trodVars_none hV
  have k0 := h0
  have lt0 : ∀ x ∈ p0, x.block < W.heap.size := by obtain ⟨m, hm⟩ := k0; exact DataW.trod_lt m _ _ _ hm
  have k1 := h1
  have lt1 : ∀ x ∈ p1, x.block < W.heap.size := by obtain ⟨m, hm⟩ := k1; exact DataW.trod_lt m _ _ _ hm
  have k2 := h2
  have lt2 : ∀ x ∈ p2, x.block < W.heap.size := by obtain ⟨m, hm⟩ := k2; exact DataW.trod_lt m _ _ _ hm
  obtain ⟨a0, rfl, rfl, rfl, w0⟩ := open_int und2 (hval 0 2 v0 rfl rfl) h0
  obtain ⟨a1, len1, cap1, rfl⟩ := okWide_slice und28 (hval 1 28 v1 rfl rfl)
  have os1 := open_slice64 und28 und2 (by kernel_rfl) (hval 1 28 _ rfl rfl) h1
  obtain ⟨a2, len2, cap2, rfl⟩ := okWide_slice und28 (hval 2 28 v2 rfl rfl)
  have os2 := open_slice64 und28 und2 (by kernel_rfl) (hval 2 28 _ rfl rfl) h2
  have sl1 := len_bd hsz0 (j := 1) (t := 28) (e := 2) (by kernel_rfl) rfl und28 (by kernel_rfl) (slice_len und28 und2 (by kernel_rfl) h1)
  have sl2 := len_bd hsz0 (j := 2) (t := 28) (e := 2) (by kernel_rfl) rfl und28 (by kernel_rfl) (slice_len und28 und2 (by kernel_rfl) h2)
  clear hA0 hval0 hsz0
  have hcall : Calls Try.prog 4 #[Value.int .i64 a0, Value.slice a1 len1 cap1, Value.slice a2 len2 cap2] W (fun e W' => e = .returned (.bool true) ∧ Below W.heap.size W W') := by
    rcases os1 with ⟨rfl, rfl, rfl⟩ | ⟨b, o, l, rfl, hl, hb⟩
    · rcases os2 with ⟨rfl, rfl, rfl⟩ | ⟨b2, o2, l2, rfl, hl2, hb2⟩
      · exact calls_law (ρ := fun b => b) (W := W) (law_FnExactMoebiusOf_nn a0) rfl HR_nil
      · exact calls_law (ρ := fun _ => b2) (W := W) (law_FnExactMoebiusOf_nr a0 l2 o2 len2 cap2 hl2 sl2) rfl (HR_ro HR_nil rfl hb2)
    · rcases os2 with ⟨rfl, rfl, rfl⟩ | ⟨b2, o2, l2, rfl, hl2, hb2⟩
      · exact calls_law (ρ := fun _ => b) (W := W) (law_FnExactMoebiusOf_rn a0 l o len1 cap1 hl sl1) rfl (HR_ro HR_nil rfl hb)
      · exact calls_law (ρ := fun i => match i with | 0 => b | _ => b2) (W := W) (law_FnExactMoebiusOf_rr a0 l o len1 cap1 hl sl1 l2 o2 len2 cap2 hl2 sl2) rfl (HR_ro (b := 0) (HR_ro (b := 1) HR_nil rfl hb2) rfl hb)
  refine hcall.mono fun e W' ⟨he, bel⟩ => ?_
  subst he
  exact ⟨_, rfl, _, _, _, [], _, [], hW', trodAll_mk1 (shut_bool undb _), (trodAll_cons_mk (shut_int und2 w0) (trodAll_cons_mk (Below.trod laidOut (by kernel_rfl) (of_decide_eq_true (by kernel_rfl)) k1 bel lt1) (trodAll_cons_mk (Below.trod laidOut (by kernel_rfl) (of_decide_eq_true (by kernel_rfl)) k2 bel lt2) trodAll_mk0))), rfl, bel.frame _, fun h => by cases h⟩
theorem over : Rows.fnExactMoebiusOfRow.holds Try.pinned (OpenSpec.ofChange Rows.fnExactMoebiusOfSpec) :=
  OpenClaim.holds_of_wide 4 Try.f4 rfl rfl rfl rfl rfl rfl rfl ⟨rfl, rfl, rfl, rfl, rfl⟩ rfl rfl rfl rfl rfl (by kernel_rfl) Try.func4 (by kernel_rfl)
    (of_decide_eq_true (by kernel_rfl)) (by unfold Func.isWrapper; first | (rw [if_pos (by decide +kernel)]; kernel_rfl) | (rw [if_neg (by decide +kernel)]; exact ⟨rfl, rfl⟩))
    (fun os started H enc _ => lifted os started H enc)
theorem proved : Rows.FnExactMoebiusOfSaid := over
end Go.Proofs.Ytchikadcicecoaa.fnExactMoebiusOf
namespace Go.Proofs.Ytchikadcicecoaa
theorem fnExactMoebiusOf_holds : Rows.FnExactMoebiusOfSaid := fnExactMoebiusOf.proved
#print axioms fnExactMoebiusOf_holds
end Go.Proofs.Ytchikadcicecoaa
