/- The law FnExactOrderOnCubic returns true for every input, given what the program itself lays in its table; the table is tied to the program. No other conditions. -/
import Derived.Test.YtcklfkblhmlbbaaDoorRows
import Derived.Test.YtcklfkblhmlbbaaDoorCards
import Derived.Test.YtcklfkblhmlbbaaDoorTie
import Derived.Test.YtcklfkblhmlbbaaDoorBOrderOnCubicK
import Derived.ProofKit
import Derived.OpenShut
import Derived.MakeChecks
import Derived.SevenTiedAt
namespace Go.Proofs.YtcklfkblhmlbbaaDoor.fnExactOrderOnCubic
open Go.ChangeShapes Go.WideShapes Go.ChangeAt Go.RowKit
set_option linter.unusedVariables false
theorem own : ownKnob Tryd.prog.godebug = none := by kernel_rfl
theorem laidOut : laidOutB Tryd.prog = true := by kernel_rfl
theorem und2 : Tryd.prog.underlying 2 = some (.int .i64) := by kernel_rfl
theorem und3 : Tryd.prog.underlying 3 = some (.int .i64) := by kernel_rfl
theorem und22 : Tryd.prog.underlying 22 = some (.array 10 2) := by kernel_rfl
theorem und23 : Tryd.prog.underlying 23 = some (.array 3 2) := by kernel_rfl
theorem und88 : Tryd.prog.underlying 88 = some (.array 3 3) := by kernel_rfl
theorem und89 : Tryd.prog.underlying 89 = some (.array 10 88) := by kernel_rfl
theorem undb : Tryd.prog.underlying 4 = some .bool := by kernel_rfl
theorem pars : Tryd.f11.params.toList = [2, 22, 23, 23] := by kernel_rfl
theorem parsA : Tryd.f11.params = #[2, 22, 23, 23] := by kernel_rfl
def laidL : List (String × DataW Unit) := [("loop.example/g01310/impl.products", Rows.laid_loop_example_g01310_impl_products)]
theorem gV : Tryd.prog.globalNamed "loop.example/g01310/impl.products" = some 0 := by kernel_rfl
theorem tV : (Tryd.prog.globals[0]?).map (·.type) = some 89 := by kernel_rfl
theorem ci : Tryd.prog.cellsOf 3 = 1 := by kernel_rfl
theorem ce : Tryd.prog.cellsOf 88 = 3 := by kernel_rfl
theorem ct : Tryd.prog.cellsOf 89 = 10 * 3 := by kernel_rfl
def tabR : List (List Int) := (List.range 10).map fun i => (cuT.drop (i * 3)).take 3
theorem door_met (os : Os) (args : Array Value) : laidMetH Tryd.prog laidL ((World.doorLaid Tryd.prog 400 os).forCall (fun _ _ => 0) ⟨#[], args, []⟩).memory :=
  laidMetH_of_parts3 (fuel := 8) (laidMet_of_run' 8 (by kernel_rfl) (by kernel_rfl)) (by kernel_rfl) (by kernel_rfl)
theorem of_laid {W : World} (h : laidMetH Tryd.prog laidL W) : ∃ t fr, W.heap[0]? = some (.cells ((cuT).map (Value.int .i64)).toArray t fr) := by
  rw [MakeChecks.laidMetH_plain _ _ _ (by kernel_rfl)] at h
  obtain ⟨ps, ⟨g0, t0, cs0, f0, p0, q0, hg0, ht0, hv0, hd0, _⟩, _, _⟩ := h
  obtain rfl := Option.some.inj (gV.symm.trans hg0)
  obtain rfl := Option.some.inj (tV.symm.trans ht0)
  have hd1 : DataW.trod _ Tryd.prog W 0 _ _ f0 89 cs0.toList = some (tab2 tabR, p0) := hd0
  have hcs := cells_of_tab2 und89 und88 und3 ci ce ct hd1 (by decide) (by decide)
  have ht : tabR.flatten = cuT := by decide
  rw [ht] at hcs
  have hcs' : cs0 = ((cuT).map (Value.int .i64)).toArray := by rw [← hcs]
  subst hcs'
  simp only [World.var?, gV, Option.bind_some] at hv0
  split at hv0
  · rename_i c e fr hb
    simp only [Option.some.injEq] at hv0
    subst hv0
    exact ⟨e, fr, hb⟩
  · cases hv0
set_option maxRecDepth 100000 in
theorem lifted (os : Os) (started : os.Started) (H : Type) (enc : TypeId × Value → H) :
    ReturnsInHanded {} Tryd.checked os 11 .any (fun w args => (Rows.fnExactOrderOnCubicSpec.pre enc Tryd.prog Tryd.f11 [] false w args ∧ laidMetH Tryd.prog laidL w) ∧ sizedMet enc Tryd.prog Tryd.f11 (OpenSpec.ofChange Rows.fnExactOrderOnCubicSpec) false w args)
      (Rows.fnExactOrderOnCubicSpec.post enc Tryd.prog Tryd.f11 false true false false) := by
  refine returnsInHanded_of_change_and (C := Tryd.checked) (X := fun w _ => laidMetH Tryd.prog laidL w) (fun _ _ _ hh h => h.of_heap hh) own started (by kernel_rfl) Tryd.func11
    (ChangeSpec.witness_shaped (enc := enc) (C := Tryd.checked) (os := os) (X := fun w _ => laidMetH Tryd.prog laidL w) false (World.doorLaid Tryd.prog 400 os) #[.int .i64 0, .agg #[.int .i64 0, .int .i64 0, .int .i64 0, .int .i64 0, .int .i64 0, .int .i64 0, .int .i64 0, .int .i64 0, .int .i64 0, .int .i64 0], .agg #[.int .i64 0, .int .i64 0, .int .i64 0], .agg #[.int .i64 0, .int .i64 0, .int .i64 0]] 8 rfl (World.shaped_of_RefB (by kernel_rfl) (by kernel_rfl)) (by kernel_rfl) (by kernel_rfl) (by kernel_rfl) (door_met os _)) ?_
  intro W base args ds gs before hval0 hW _ _ hL _
  have hval : ∀ (j : Nat) t v, Tryd.f11.params.toList[j]? = some t → args[j]? = some v → Value.okWide Tryd.prog W .any base t v := fun j t v h => hval0 j t v (by rwa [Array.getElem?_toList] at h)
  have hW' := hW
  obtain ⟨p, q, hA0, hV, rfl, hfz, hnd⟩ := hW
  have hA : DataW.TrodAll enc Tryd.prog W 0 (fun _ => true) true Tryd.f11.params.toList args.toList ds p := hA0
  have hgl := of_laid hL
  rw [pars] at hA hval
  obtain ⟨v0, vs0, d0, ds0, p0, q0, hargs, rfl, rfl, h0, r0⟩ := trodAll_cons hA
  obtain ⟨v1, vs1, d1, ds1, p1, q1, rfl, rfl, rfl, h1, r1⟩ := trodAll_cons r0
  obtain ⟨v2, vs2, d2, ds2, p2, q2, rfl, rfl, rfl, h2, r2⟩ := trodAll_cons r1
  obtain ⟨v3, vs3, d3, ds3, p3, q3, rfl, rfl, rfl, h3, r3⟩ := trodAll_cons r2
  obtain ⟨rfl, rfl, rfl⟩ := trodAll_nil r3
  obtain rfl : args = #[v0, v1, v2, v3] := by cases args; simp_all
  have hV1 := hV
  obtain ⟨g9, t9, c9, f9, e9, z9, rfl, _⟩ := trodVars_one hV1
  have k0 := h0
  have lt0 : ∀ x ∈ p0, x.block < W.heap.size := by obtain ⟨m, hm⟩ := k0; exact DataW.trod_lt m _ _ _ hm
  have k1 := h1
  have lt1 : ∀ x ∈ p1, x.block < W.heap.size := by obtain ⟨m, hm⟩ := k1; exact DataW.trod_lt m _ _ _ hm
  have k2 := h2
  have lt2 : ∀ x ∈ p2, x.block < W.heap.size := by obtain ⟨m, hm⟩ := k2; exact DataW.trod_lt m _ _ _ hm
  have k3 := h3
  have lt3 : ∀ x ∈ p3, x.block < W.heap.size := by obtain ⟨m, hm⟩ := k3; exact DataW.trod_lt m _ _ _ hm
  obtain ⟨a0, rfl, rfl, rfl, w0⟩ := open_int und2 (hval 0 2 v0 rfl rfl) h0
  obtain ⟨a1, rfl, l1, z1⟩ := open_arr64 (m := 10) (ts := [2, 2, 2, 2, 2, 2, 2, 2, 2, 2]) und22 (by kernel_rfl) (by kernel_rfl) (by kernel_rfl) (hval 1 22 v1 rfl rfl)
  obtain ⟨a2, rfl, l2, z2⟩ := open_arr64 (m := 3) (ts := [2, 2, 2]) und23 (by kernel_rfl) (by kernel_rfl) (by kernel_rfl) (hval 2 23 v2 rfl rfl)
  obtain ⟨a3, rfl, l3, z3⟩ := open_arr64 (m := 3) (ts := [2, 2, 2]) und23 (by kernel_rfl) (by kernel_rfl) (by kernel_rfl) (hval 3 23 v3 rfl rfl)
  clear hA0 hval0
  have hc := calls_lawG (ρ := fun _ => 0) (W := W) (law_FnExactOrderOnCubic a0 a1 a2 a3 l1 l2 l3) rfl (HR_two HR_nil rfl rfl hgl) (fun x hx => by rw [List.mem_singleton] at hx; subst hx; exact ⟨by simp [ids], rfl⟩)
  refine hc.mono fun e W' ⟨he, bel⟩ => ?_
  subst he
  exact ⟨_, rfl, _, _, _, [], _, _, hW', trodAll_mk1 (shut_bool undb _), (trodAll_cons_mk (shut_int und2 w0) (trodAll_cons_mk (Below.trod laidOut (by kernel_rfl) (of_decide_eq_true (by kernel_rfl)) k1 bel lt1) (trodAll_cons_mk (Below.trod laidOut (by kernel_rfl) (of_decide_eq_true (by kernel_rfl)) k2 bel lt2) (trodAll_cons_mk (Below.trod laidOut (by kernel_rfl) (of_decide_eq_true (by kernel_rfl)) k3 bel lt3) trodAll_mk0)))), Below.trodVars laidOut bel (by kernel_rfl) hV, bel.frame _, fun h => by cases h⟩
theorem over : Rows.fnExactOrderOnCubicRow.holds Tryd.pinned (OpenSpec.ofChange Rows.fnExactOrderOnCubicSpec) :=
  OpenClaim.holds_of_wide 11 Tryd.f11 rfl rfl rfl rfl rfl rfl rfl ⟨rfl, rfl, rfl, rfl, rfl⟩ rfl rfl rfl rfl rfl (by kernel_rfl) Tryd.func11 (by kernel_rfl)
    (of_decide_eq_true (by kernel_rfl)) (by unfold Func.isWrapper; first | (rw [if_pos (by decide +kernel)]; kernel_rfl) | (rw [if_neg (by decide +kernel)]; exact ⟨rfl, rfl⟩))
    (fun os started H enc _ => lifted os started H enc)
theorem proved : Rows.FnExactOrderOnCubicCardSaid :=
  Claim7.holds_tied_plain_at .later [] [.widerDeep] true (true, "94a33f447d679432d257fa6f7d8e74aa8894bea4e2073e64d6ff3817a69807f3") false
    over (fun _ h => by cases h) (by kernel_rfl) (fun _ h => by cases h) fnExactOrderOnCubic_row_tie rfl ⟨rfl, rfl⟩ (by kernel_rfl) rfl
    (fun f fn hf hfn => by
      obtain rfl : f = 11 := Option.some.inj ((show Tryd.prog.funcNamed "loop.example/g01310/laws.FnExactOrderOnCubic" = some 11 by kernel_rfl).symm.trans hf) |>.symm
      obtain rfl : fn = Tryd.f11 := (Option.some.inj (Tryd.func11.symm.trans hfn)).symm
      exact ⟨by kernel_rfl, fun j t ht => by
        rw [parsA] at ht
        have hm : t ∈ [2, 22, 23, 23] := by simpa using Array.mem_of_getElem? ht
        have hall : ([2, 22, 23, 23].all fun u => !Tryd.prog.wantsStandIn u) = true := by kernel_rfl
        exact (show Tryd.prog.wantsStandIn t = false by simpa using List.all_eq_true.1 hall t hm)⟩)
    (by kernel_rfl)
end Go.Proofs.YtcklfkblhmlbbaaDoor.fnExactOrderOnCubic
namespace Go.Proofs.YtcklfkblhmlbbaaDoor
theorem fnExactOrderOnCubic_holds : Rows.FnExactOrderOnCubicCardSaid := fnExactOrderOnCubic.proved
#print axioms fnExactOrderOnCubic_holds
end Go.Proofs.YtcklfkblhmlbbaaDoor
