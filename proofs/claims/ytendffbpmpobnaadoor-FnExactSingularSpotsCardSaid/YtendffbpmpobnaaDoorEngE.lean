/- The engine, part E: states seen anew, loops, functions, calls. -/
import Derived.Test.YtendffbpmpobnaaDoorEngD
namespace Go.Proofs.YtendffbpmpobnaaDoor

/-! ### a state seen with other ids, and less of it -/
def vF (τ : Nat → Nat) (F : Fr) : Fr → Prop
  | [] => True
  | (t, v) :: r => lkV F t = some (ren τ v) ∧ vF τ F r
def vH (τ : Nat → Nat) (H : Hp) : Hp → Prop
  | [] => True
  | (b, k) :: r => lkB H (τ b) = some (k.ren τ) ∧ vH τ H r
def ids (H : Hp) : List Nat := H.map (·.1)
def wids (H : Hp) : List Nat := (H.filter fun x => wrt x.2).map (·.1)
def wfB (D : List Nat) (s : S) : Bool :=
  (s.H.all fun x => (Nat.blt x.1 s.n || Nat.ble 1000 x.1) && sc s.n x.2.ids) && (D.all fun b => Nat.blt b s.n || Nat.ble 1000 b) && s.F.all fun x => sc s.n x.2.ids
theorem wf_of {c : Cx} {s : S} (h : wfB c.D s = true) : WF c s := by
  simp only [wfB, Bool.and_eq_true, List.all_eq_true, Bool.or_eq_true, Nat.blt_eq, Nat.ble_eq] at h
  obtain ⟨⟨h1, h2⟩, h3⟩ := h
  refine ⟨fun b hb1 hb2 => ⟨lkB_none fun k hk => ?_, fun hD => ?_⟩, fun t v hv b hb => sc_iff.1 (h3 _ (lkV_mem hv)) b hb, fun b k hk b' hb' => sc_iff.1 (h1 _ (lkB_mem hk)).2 b' hb'⟩
  · have := (h1 _ hk).1; simp only at this; omega
  · have := h2 _ hD; omega
/-- a map on ids, by its pairs -/
def ap : List (Nat × Nat) → Nat → Nat
  | [], b => b
  | (i, j) :: r, b => match Nat.beq i b with
    | true => j
    | false => ap r b
def injB (τ : Nat → Nat) : List Nat → Bool
  | [] => true
  | b :: r => (r.all fun b' => Nat.beq b b' || !(Nat.beq (τ b) (τ b'))) && injB τ r
theorem injB_iff {τ : Nat → Nat} {l : List Nat} (h : injB τ l = true) : ∀ b ∈ l, ∀ b' ∈ l, τ b = τ b' → b = b' := by
  induction l with
  | nil => simp
  | cons x r ih =>
    simp only [injB, Bool.and_eq_true, List.all_eq_true, Bool.or_eq_true, Bool.not_eq_true'] at h
    obtain ⟨h1, h2⟩ := h
    have key : ∀ b' ∈ r, τ x = τ b' → x = b' := fun b' hb' e => by
      rcases h1 b' hb' with h | h
      · exact Nat.eq_of_beq_eq_true h
      · rw [e] at h; simp at h
    intro b hb b' hb' e
    rcases List.mem_cons.1 hb with h3 | h3 <;> rcases List.mem_cons.1 hb' with h4 | h4
    · rw [h3, h4]
    · subst h3; exact key b' h4 e
    · subst h4; exact (key b h3 e.symm).symm
    · exact ih h2 b h3 b' h4 e
structure ViewT (c : Cx) (τ : Nat → Nat) (s' s : S) : Prop where
  fixD : ∀ d ∈ c.D, τ d = d
  fr : vF τ s.F s'.F
  hp : vH τ s.H s'.H
  inj : ∀ b ∈ ids s'.H, ∀ b' ∈ ids s'.H, τ b = τ b' → b = b'
  wf : WF c s'
def View (c : Cx) (s' s : S) : Prop := ∃ τ, ViewT c τ s' s
theorem vF_lk {τ : Nat → Nat} {F F' : Fr} (h : vF τ F F') {t : Nat} {v : V} (hv : lkV F' t = some v) : lkV F t = some (ren τ v) := by
  induction F' with
  | nil => simp [lkV] at hv
  | cons x r ih =>
    obtain ⟨t', v'⟩ := x
    simp only [vF] at h
    rw [lkV_cons] at hv
    split at hv
    · rename_i e; subst e; injection hv with hv; subst hv; exact h.1
    · exact ih h.2 hv
theorem vH_lk {τ : Nat → Nat} {H H' : Hp} (h : vH τ H H') {b : Nat} {k : Blk} (hv : lkB H' b = some k) : lkB H (τ b) = some (k.ren τ) := by
  induction H' with
  | nil => simp [lkB] at hv
  | cons x r ih =>
    obtain ⟨t', v'⟩ := x
    simp only [vH] at h
    rw [lkB_cons] at hv
    split at hv
    · rename_i e; subst e; injection hv with hv; subst hv; exact h.1
    · exact ih h.2 hv
theorem ren_bot {τ : Nat → Nat} {v : V} (h : v ≠ .bot) : ren τ v ≠ .bot := by cases v <;> simp [ren] at h ⊢
theorem ren_dead {τ : Nat → Nat} {k : Blk} (h : k ≠ .dead) : k.ren τ ≠ .dead := by cases k <;> simp [Blk.ren] at h ⊢
theorem wrt_ren {τ : Nat → Nat} {k : Blk} : wrt (k.ren τ) = wrt k := by cases k <;> rfl
theorem mem_wids {H : Hp} {b : Nat} {k : Blk} (h : lkB H b = some k) (hw : wrt k = true) : b ∈ wids H := List.mem_map.2 ⟨_, List.mem_filter.2 ⟨lkB_mem h, hw⟩, rfl⟩
theorem mem_ids {H : Hp} {b : Nat} {k : Blk} (h : lkB H b = some k) : b ∈ ids H := List.mem_map.2 ⟨_, lkB_mem h, rfl⟩

section
variable {c : Cx} {s s' : S} {Q : Post}
theorem CC.view {ρ0 ρ τ : Nat → Nat} {w0 w : World} {H H' : Hp} (h : CC c ρ0 w0 ρ H w) (fixD : ∀ d ∈ c.D, τ d = d) (hp : vH τ H H') (inj : ∀ b ∈ ids H', ∀ b' ∈ ids H', τ b = τ b' → b = b') : CC c ρ0 w0 (fun b => ρ (τ b)) H' w := by
  refine ⟨⟨fun b k hl hd => ?_, fun b b' k k' h1 h2 d1 d2 hw12 he => ?_⟩, fun b hb => ?_, fun b k hl hd hwk => ?_, h.inv.os, h.inv.tape, h.inv.out, h.inv.drw, h.inv.size, h.inv.old⟩
  · obtain ⟨o, ho, hb⟩ := h.hr.1 _ _ (vH_lk hp hl) (ren_dead hd)
    exact ⟨o, ho, BR_ren hb⟩
  · exact inj b (mem_ids h1) b' (mem_ids h2) (h.hr.2 _ _ _ _ (vH_lk hp h1) (vH_lk hp h2) (ren_dead d1) (ren_dead d2) (by rw [wrt_ren, wrt_ren]; exact hw12) he)
  · simp only [fixD b hb]; exact h.inv.fix b hb
  · exact h.inv.own _ _ (vH_lk hp hl) (ren_dead hd) (by rw [wrt_ren]; exact hwk)
theorem St.view {ρ0 ρ τ : Nat → Nat} {w0 w : World} {a : Act} (hs : St c ρ0 w0 ρ s a w) (h : ViewT c τ s' s) : St c ρ0 w0 (fun b => ρ (τ b)) s' a w :=
  ⟨hs.cc.view h.fixD h.hp h.inj, ⟨hs.fr.1, hs.fr.2.1, fun t v hv => by
    by_cases hb : v = .bot
    · exact .inl hb
    · rcases hs.fr.2.2 t _ (vF_lk h.fr hv) with e | e
      · exact absurd e (ren_bot hb)
      · exact .inr (by rw [e, rv_ren])⟩, h.wf⟩
theorem CW_view {x : Code} (h : View c s' s) (hx : CW c x Q s') : CW c x Q s := by
  obtain ⟨τ, h⟩ := h
  exact fun ρ0 w0 hg ρ a w hs => hx ρ0 w0 hg _ a w (hs.view h)
/-- the usual way to show a view: everything by evaluation -/
theorem View.mk' (l : List (Nat × Nat)) (h1 : (c.D.all fun d => Nat.beq (ap l d) d) = true) (h2 : wfB c.D s' = true) (h3 : injB (ap l) (ids s'.H) = true) (h4 : vF (ap l) s.F s'.F) (h5 : vH (ap l) s.H s'.H) : View c s' s :=
  ⟨ap l, fun d hd => by simpa using (List.all_eq_true.1 h1) d hd, h4, h5, injB_iff h3, wf_of h2⟩

/-! ### loops -/
theorem wp_loop_fam {P : Program} {ι : Type} {x : Code} {Q : Exit → Act → World → Prop} {a : Act} {w : World} (I : ι → Act → World → Prop) (μ : ι → Nat) (i0 : ι) (h0 : I i0 a w)
    (round : ∀ i a w, I i a w → x.wp P (Exit.then (fun a' w' => ∃ j, I j a' w' ∧ μ j < μ i) Q) a w) : (Code.loop x).wp P Q a w := by
  intro b k cs
  have key : ∀ n i a w, μ i = n → I i a w → ∃ e a' w', Q e a' w' ∧ Arrives P (lone (b.at a (.code x :: .inLoop x :: k)) cs w) b k cs e a' w' := by
    intro n
    induction n using Nat.strongRecOn with
    | _ n ih =>
      intro i a w hn hI
      obtain ⟨e, a₁, w₁, hq, harr⟩ := round i a w hI b (.inLoop x :: k) cs
      cases e with
      | normal =>
        obtain ⟨j, hI₁, hlt⟩ := hq
        obtain ⟨e₂, a₂, w₂, hq₂, harr₂⟩ := ih (μ j) (hn ▸ hlt) j a₁ w₁ rfl hI₁
        exact ⟨e₂, a₂, w₂, hq₂, .of_steps (Steps.trans harr (.one step_inLoop)) harr₂⟩
      | exit id => exact ⟨_, a₁, w₁, hq, .pass (x := .inLoop x) rfl (fun _ _ => .inl (by simp)) harr⟩
      | goto l => exact ⟨_, a₁, w₁, hq, .pass (x := .inLoop x) rfl (fun _ _ => .inl (by simp)) harr⟩
      | ret => exact ⟨_, a₁, w₁, hq, .pass (x := .inLoop x) rfl (fun _ _ => .inl (by simp)) harr⟩
      | panic ch => exact ⟨_, a₁, w₁, hq, .pass (x := .inLoop x) rfl (fun _ _ => .inl (by simp)) harr⟩
      | outgrown => exact ⟨_, a₁, w₁, hq, .pass (x := .inLoop x) rfl (fun _ _ => .inl (by simp)) harr⟩
  obtain ⟨e, a', w', hq, harr⟩ := key _ i0 a w rfl h0
  exact ⟨e, a', w', hq, .of_steps (.one step_loop) harr⟩
theorem CW_loop {ι : Type} (ok : ι → Prop) (I : ι → S) (μ : ι → Nat) (i0 : ι) {body : Code} (h0 : ok i0) (hv : View c (I i0) s)
    (round : ∀ i, ok i → CW c body (thenP (fun s' => ∃ j, ok j ∧ μ j < μ i ∧ View c (I j) s') Q) (I i)) : CW c (.loop body) Q s := by
  intro ρ0 w0 hg ρ a w hs
  obtain ⟨τ, hv⟩ := hv
  refine wp_loop_fam (ι := ι) (fun i a w => ok i ∧ ∃ ρ, St c ρ0 w0 ρ (I i) a w) μ i0 ⟨h0, _, hs.view hv⟩ ?_
  rintro i a w ⟨hok, ρ, hs⟩
  refine Code.wp_mono ?_ (round i hok ρ0 w0 hg ρ a w hs)
  rintro e a' w' ⟨s', ρ', hq, hs'⟩
  cases e with
  | normal =>
    obtain ⟨j, hj, hlt, τ', hv'⟩ := hq
    exact ⟨j, ⟨hj, _, hs'.view hv'⟩, hlt⟩
  | _ => exact ⟨s', ρ', hq, hs'⟩

/-! ### functions -/
/-- what a function leaves in a result -/
inductive RV (c : Cx) (s : S) : ResultVar → V → Prop
  | tmp {t : Nat} {v : V} (h : lkV s.F t = some v) (hn : nb v = true) : RV c s (.tmp t) v
  | arr {a t t' b : Nat} {i : TI} {l : List Int} (h : lkV s.F a = some (.ptr b 0)) (hb : lkB s.H b = some (.ints t' l)) (ht : lkT c.T t = some i) (hd : aggD i.d = true) (hl : l.length = i.size) : RV c s (.cell a t) (.arr l)
  | int {a t t' b : Nat} {i : TI} {n : Int} (h : lkV s.F a = some (.ptr b 0)) (hb : lkB s.H b = some (.ints t' [n])) (ht : lkT c.T t = some i) (hd : i.d = .int .i64) : RV c s (.cell a t) (.int n)
  | val {a t t' b : Nat} {i : TI} {v : V} (h : lkV s.F a = some (.ptr b 0)) (hb : lkB s.H b = some (.vals t' [v])) (hn : nb v = true) (ht : lkT c.T t = some i) (hd : aggD i.d = false) : RV c s (.cell a t) v
inductive RVs (c : Cx) (s : S) : List ResultVar → List V → Prop
  | nil : RVs c s [] []
  | cons {x : ResultVar} {v : V} {r : List ResultVar} {vs : List V} (h : RV c s x v) (hr : RVs c s r vs) : RVs c s (x :: r) (v :: vs)
def resV : List V → V
  | [v] => v
  | vs => .tuple vs
def resF (tmps : Array Value) : ResultVar → Sem Value
  | .tmp t => pure (tmps.getD t undef)
  | .cell p t => do loadVar t (← asAddr (tmps.getD p undef))
theorem RV.run {ρ0 ρ : Nat → Nat} {w0 w : World} {a : Act} {x : ResultVar} {v : V} (hs : St c ρ0 w0 ρ s a w) (h : RV c s x v) :
    (resF a.tmps x).run c.P w = .ok (rv ρ v) w := by
  have slot : ∀ {t : Nat} {v : V}, lkV s.F t = some v → v ≠ .bot → a.tmps.getD t undef = rv ρ v := fun {t v} h1 h2 => by
    rcases hs.fr.2.2 t v h1 with e | e
    · exact absurd e h2
    · simp [Array.getD_eq_getD_getElem?, e]
  cases h with
  | tmp h hn => simp only [resF, slot h (ne_bot hn)]; rfl
  | arr h hb ht hd hl =>
    rename_i i l
    have := run_loadInts (o := 0) hs.cc hb ht hd rfl (by omega)
    rw [List.drop_zero, ← hl, List.take_length] at this
    simp only [resF, slot h (by simp), rv, asAddr, Sem.run_bind, Sem.run_pure, Result.andThen_ok, this, icells]
  | int h hb ht hd =>
    have hag : ∀ w, (isAgg _).run c.P w = .ok false w := fun w => by rw [run_isAgg' c.tok ht, hd]; try rfl
    have hc := cell_ints (o := 0) hs.cc hb
    simp only [resF, slot h (by simp), rv, asAddr, Sem.run_bind, Sem.run_pure, Result.andThen_ok, loadVar, hag, Bool.false_eq_true, if_false, run_load, hc]
    rfl
  | val h hb hn ht hd =>
    have hag : ∀ w, (isAgg _).run c.P w = .ok false w := fun w => by rw [run_isAgg' c.tok ht, hd]
    have hc := cell_vals (o := 0) hs.cc hb rfl hn
    simp only [resF, slot h (by simp), rv, asAddr, Sem.run_bind, Sem.run_pure, Result.andThen_ok, loadVar, hag, Bool.false_eq_true, if_false, run_load, hc]
theorem mapM_run {P : Program} {α : Type} (f : α → Sem Value) (w : World) : ∀ (l : List α) (vs : List Value), l.length = vs.length → (∀ (i : Nat) x v, l[i]? = some x → vs[i]? = some v → (f x).run P w = .ok v w) → (l.mapM f).run P w = .ok vs w
  | [], [], _, _ => by simp
  | x :: l, v :: vs, hl, h => by
    have h0 := h 0 x v rfl rfl
    have ih := mapM_run f w l vs (by simpa using hl) (fun (i : Nat) y u hy hu => h (i + 1) y u (by simpa using hy) (by simpa using hu))
    simp [List.mapM_cons, h0, ih]
theorem RVs.spec {rs : List ResultVar} {vs : List V} (h : RVs c s rs vs) : rs.length = vs.length ∧ ∀ (i : Nat) x v, rs[i]? = some x → vs[i]? = some v → RV c s x v := by
  induction h with
  | nil => simp
  | cons h hr ih =>
    refine ⟨by simp [ih.1], fun (i : Nat) x v h1 h2 => ?_⟩
    cases i with
    | zero => simp at h1 h2; subst h1; subst h2; exact h
    | succ i => simp at h1 h2; exact ih.2 i x v h1 h2
theorem results_run {ρ0 ρ : Nat → Nat} {w0 w : World} {a : Act} {fn : Func} {rs : List ResultVar} {vs : List V} (hf : fn.results = rs.toArray) (hs : St c ρ0 w0 ρ s a w) (h : RVs c s rs vs) : (results fn a.tmps).run c.P w = .ok (rv ρ (resV vs)) w := by
  obtain ⟨hl, hx⟩ := h.spec
  have hm := mapM_run (P := c.P) (resF a.tmps) w rs (rvs ρ vs) (by simp [rvs_eq_map, hl])
    (fun (i : Nat) x v h1 h2 => by
      rw [rvs_eq_map] at h2
      simp only [List.getElem?_map, Option.map_eq_some_iff] at h2
      obtain ⟨u, hu, rfl⟩ := h2
      exact (hx i x u h1 hu).run hs)
  have hfun : results fn a.tmps = (do
      let vs ← fn.results.mapM (resF a.tmps)
      pure (if h : vs.size = 1 then vs[0] else .tuple vs)) := by
    unfold results
    congr 1
  rw [hfun, hf, List.mapM_toArray]
  simp only [Sem.run_bind, Sem.run_map, hm, Result.andThen_ok, Sem.run_pure]
  congr 1
  match vs with
  | [] => simp [rvs, resV, rv]
  | [v] => simp [rvs, resV]
  | v :: u :: r => simp [rvs, resV, rv]

/-- the exit of a function: the results, and the heap, seen as the contract has them -/
def exitP (c : Cx) (rs : List ResultVar) (R : V → Hp → Prop) : Post := fun e s =>
  (e = .normal ∨ e = .ret) ∧ ∃ vs r H' n', RVs c s rs vs ∧ View c ⟨[(0, r)], H', n'⟩ ⟨[(0, resV vs)], s.H, s.n⟩ ∧ nb r = true ∧ R r H'
structure Enter (P : Program) (f : Nat) : Prop where
  ex : ∃ fn, P.funcs[f]? = some fn ∧ fn.body.isNone = false ∧ (fn.name == "runtime.NumGoroutine") = false
def Con (P : Program) (gl : List (Nat × Nat)) (f : Nat) (args : List V) (H : Hp) (R : V → Hp → Prop) : Prop :=
  Enter P f ∧ ∀ ρ w, HR ρ H w → GR gl (ids H) ρ → Calls P f (rvs ρ args).toArray w fun e w' =>
    ∃ r H' ρ', R r H' ∧ e = .returned (rv ρ' r) ∧ HR ρ' H' w' ∧ Inv (ids H) (wids H) ρ w ρ' H' w'
def entF : Nat → List V → Fr
  | _, [] => []
  | k, v :: r => (k, v) :: entF (k + 1) r
theorem entF_lk : ∀ (vs : List V) (k t : Nat) (v : V), lkV (entF k vs) t = some v → ∃ j, t = k + j ∧ vs[j]? = some v
  | [], k, t, v, h => by simp [entF, lkV] at h
  | u :: r, k, t, v, h => by
    simp only [entF] at h
    rw [lkV_cons] at h
    split at h
    · rename_i e; injection h with h; subst h; exact ⟨0, by omega, rfl⟩
    · obtain ⟨j, rfl, hj⟩ := entF_lk r (k + 1) t v h
      exact ⟨j + 1, by omega, by simpa using hj⟩
theorem con_of_cw {P : Program} {T : TT} (tok : TOK P T) {gl : List (Nat × Nat)} {f N n : Nat} {fn : Func} {x : Code} {args : List V} {H : Hp} {R : V → Hp → Prop} {rs : List ResultVar} (hf : P.funcs[f]? = some fn) (hb : fn.body = some x)
    (hname : (fn.name == "runtime.NumGoroutine") = false) (hN : fn.ntmps = N) (hrs : fn.results = rs.toArray) (hargs : Nat.ble args.length N = true) (hwf : wfB (ids H) ⟨entF 0 args, H, n⟩ = true)
    (h : CW ⟨P, T, tok, gl, N, ids H, wids H⟩ x (exitP ⟨P, T, tok, gl, N, ids H, wids H⟩ rs R) ⟨entF 0 args, H, n⟩) : Con P gl f args H R := by
  refine ⟨⟨fn, hf, by simp [hb], hname⟩, fun ρ w hr hg => ?_⟩
  have hlen : args.length ≤ N := Nat.le_of_ble_eq_true hargs
  refine calls_of_wp hf hb ?_
  have hst : St ⟨P, T, tok, gl, N, ids H, wids H⟩ ρ w ρ ⟨entF 0 args, H, n⟩ { tmps := (rvs ρ args).toArray ++ Array.replicate (fn.ntmps - (rvs ρ args).toArray.size) undef, defers := [] } w := by
    refine ⟨⟨hr, fun _ _ => rfl, fun b k hl _ hw => .inl ⟨b, mem_wids hl hw, rfl⟩, rfl, rfl, rfl, Nat.le_refl _, Nat.le_refl _, fun _ _ _ => rfl⟩, ⟨rfl, by simp [rvs_eq_map, hN]; omega, fun t v hv => ?_⟩, wf_of hwf⟩
    obtain ⟨j, rfl, hj⟩ := entF_lk args 0 t v hv
    right
    have hjl : j < args.length := by
      rcases Nat.lt_or_ge j args.length with h | h
      · exact h
      · rw [List.getElem?_eq_none h] at hj; cases hj
    rw [Nat.zero_add, Array.getElem?_append_left (by simp [rvs_eq_map, hjl])]
    simp [rvs_eq_map, hj]
  refine Code.wp_mono ?_ (h ρ w hg ρ _ w hst)
  rintro e a' w' ⟨s', ρ', ⟨he, vs, r, H', n', hvs, ⟨τ, hv⟩, hnb, hR⟩, hs'⟩
  have hrun := results_run hrs hs' hvs
  have hcc := hs'.cc.view hv.fixD hv.hp hv.inj
  have hval : resV vs = ren τ r := by have := hv.fr.1; simpa [lkV] using this
  have fin : a'.defers = [] ∧ ∃ v, (results fn a'.tmps).run P w' = .ok v w' ∧ ∃ r H' ρ', R r H' ∧ Ending.returned v = .returned (rv ρ' r) ∧ HR ρ' H' w' ∧ Inv (ids H) (wids H) ρ w ρ' H' w' :=
    ⟨hs'.fr.1, _, hrun, r, H', _, hR, by rw [hval, rv_ren], hcc.hr, hcc.inv⟩
  rcases he with rfl | rfl <;> exact fin
theorem Con.mono {P : Program} {gl : List (Nat × Nat)} {f : Nat} {args : List V} {H : Hp} {R R' : V → Hp → Prop} (h : Con P gl f args H R) (hr : ∀ r H', R r H' → R' r H') : Con P gl f args H R' :=
  ⟨h.1, fun ρ w h1 h2 => (h.2 ρ w h1 h2).mono fun _ _ ⟨r, H', ρ', q, rest⟩ => ⟨r, H', ρ', hr _ _ q, rest⟩⟩
end
end Go.Proofs.YtendffbpmpobnaaDoor
