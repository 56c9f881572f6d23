/- The engine, part F: calls. -/
import Derived.Test.YtendffbpmpobnaaDoorEngE
namespace Go.Proofs.YtendffbpmpobnaaDoor
section
variable {c : Cx} {s : S} {Q : Post}

theorem run_call {f : Nat} {o : Oper} {xs : List Operand} {ats : Array TypeId} {vs : List V} {ρ0 ρ : Nat → Nat} {a : Act} {w : World} (ho : o.op = .call ⟨.value (.func f), xs.toArray, ats⟩) (he : Enter c.P f) (hg : GR c.gl c.D ρ0) (hfix : ∀ b ∈ c.D, ρ b = ρ0 b) (hf : FR c ρ s.F a)
    (hx : evs c s.F xs = some vs) : (execOp a.eval o).run c.P w = .ok (.enter f (rvs ρ vs).toArray) w := by
  obtain ⟨fn, h1, h2, h3⟩ := he
  have h3' : ¬ fn.name = "runtime.NumGoroutine" := by simpa using h3
  have h2' : ¬ fn.body = none := fun e => by simp [e] at h2
  simp [execOp, ho, resolve, Act.eval, Deferred.ofValue, invoke, callFunc, h1, h2', h3', evs_rv hg hfix hf hx]
/-- a call through a slot that holds a function (a closure) -/
theorem run_callv {f : Nat} {o : Oper} {x : Operand} {xs : List Operand} {ats : Array TypeId} {fst caps vs : List V} {ρ0 ρ : Nat → Nat} {a : Act} {w : World} (ho : o.op = .call ⟨.value x, xs.toArray, ats⟩) (he : Enter c.P f) (hg : GR c.gl c.D ρ0) (hfix : ∀ b ∈ c.D, ρ b = ρ0 b) (hf : FR c ρ s.F a)
    (hv : ev c s.F x = some (.func f fst caps)) (hx : evs c s.F xs = some vs) : (execOp a.eval o).run c.P w = .ok (.enter f (rvs ρ (fst ++ vs ++ caps)).toArray) w := by
  obtain ⟨fn, h1, h2, h3⟩ := he
  have h3' : ¬ fn.name = "runtime.NumGoroutine" := by simpa using h3
  have h2' : ¬ fn.body = none := fun e => by simp [e] at h2
  have e := ev_rv hg hfix hf hv (by simp)
  simp only [rv] at e
  simp [execOp, ho, resolve, e, Deferred.ofValue, invoke, callFunc, h1, h2', h3', evs_rv hg hfix hf hx, rvs_eq_map]

theorem rens_congr_rvs {ρ τ ρ' : Nat → Nat} (vs : List V) (h : ∀ b ∈ idss vs, ρ (τ b) = ρ' b) : rvs ρ (rens τ vs) = rvs ρ' vs := by
  rw [rvs_rens]; exact rvs_congr vs h
theorem mem_ids_of {H : Hp} {b : Nat} (h : b ∈ ids H) : ∃ k, lkB H b = some k := by
  induction H with
  | nil => simp [ids] at h
  | cons x r ih =>
    obtain ⟨i, k⟩ := x
    by_cases e : i = b
    · exact ⟨k, by rw [lkB_cons, if_pos e]⟩
    · have : b ∈ ids r := by
        simp only [ids, List.map_cons, List.mem_cons] at h
        rcases h with h | h
        · exact absurd h.symm e
        · exact h
      obtain ⟨k', hk'⟩ := ih this
      exact ⟨k', by rw [lkB_cons, if_neg e]; exact hk'⟩
def allLive (H : Hp) : Bool := H.all fun x => live x.2
theorem live_of {H : Hp} {b : Nat} {k : Blk} (h : allLive H = true) (hl : lkB H b = some k) : k ≠ .dead := live_ne (List.all_eq_true.1 h _ (lkB_mem hl))

theorem vH_mem {τ : Nat → Nat} {H H' : Hp} (h : vH τ H H') {b : Nat} {k : Blk} (hm : (b, k) ∈ H') : lkB H (τ b) = some (k.ren τ) := by
  induction H' with
  | nil => simp at hm
  | cons x r ih =>
    obtain ⟨t', v'⟩ := x
    simp only [vH] at h
    rcases List.mem_cons.1 hm with e | hm
    · injection e with e1 e2; subst e1; subst e2; exact h.1
    · exact ih h.2 hm
theorem wids_mem {H : Hp} {d : Nat} (h : d ∈ wids H) : ∃ k, (d, k) ∈ H ∧ wrt k = true := by
  obtain ⟨⟨d', k⟩, h1, rfl⟩ := List.mem_map.1 h
  obtain ⟨h2, h3⟩ := List.mem_filter.1 h1
  exact ⟨k, h2, h3⟩
theorem wids_ids {H : Hp} {d : Nat} (h : d ∈ wids H) : d ∈ ids H := by
  obtain ⟨k, h1, _⟩ := wids_mem h
  exact List.mem_map.2 ⟨_, h1, rfl⟩
/-- what a caller hands to a contract: its own ids for the contract's -/
structure Fits (c : Cx) (s : S) (σ : Nat → Nat) (gl' : List (Nat × Nat)) (H0 : Hp) : Prop where
  hp : vH σ s.H H0
  live : allLive H0 = true
  inj : ∀ b ∈ ids H0, ∀ b' ∈ ids H0, σ b = σ b' → b = b'
  gl : ∀ x ∈ gl', x.2 ∈ ids H0 ∧ (x.1, σ x.2) ∈ c.gl
theorem Fits.pre {σ : Nat → Nat} {gl' : List (Nat × Nat)} {H0 : Hp} (h : Fits c s σ gl' H0) {ρ0 ρ : Nat → Nat} {w0 w : World} (hg : GR c.gl c.D ρ0) (hw : CC c ρ0 w0 ρ s.H w) : HR (fun b => ρ (σ b)) H0 w ∧ GR gl' (ids H0) (fun b => ρ (σ b)) := by
  refine ⟨⟨fun b k hl hd => ?_, fun b b' k k' h1 h2 d1 d2 hw12 he => ?_⟩, fun x hx => ?_⟩
  · obtain ⟨o, ho, hb⟩ := hw.hr.1 _ _ (vH_lk h.hp hl) (ren_dead hd)
    exact ⟨o, ho, BR_ren hb⟩
  · exact h.inj b (mem_ids h1) b' (mem_ids h2) (hw.hr.2 _ _ _ _ (vH_lk h.hp h1) (vH_lk h.hp h2) (ren_dead d1) (ren_dead d2) (by rw [wrt_ren, wrt_ren]; exact hw12) he)
  · obtain ⟨h1, h2⟩ := h.gl x hx
    obtain ⟨h3, h4⟩ := hg _ h2
    exact ⟨h1, by simp only at h3 h4 ⊢; rw [hw.inv.fix _ h3]; exact h4⟩

def σ' (H0 : Hp) (σ : Nat → Nat) (n : Nat) (b : Nat) : Nat := if (ids H0).contains b then σ b else n + b
def after (H0 : Hp) (σ : Nat → Nat) (M : Nat) (s : S) (H1 : Hp) : S :=
  { F := s.F, H := (H1.map fun x => (σ' H0 σ s.n x.1, x.2.ren (σ' H0 σ s.n))) ++ s.H, n := s.n + M }
/-- the ids of an outcome: the contract's own, or new ones below M -/
def scM (H0 : Hp) (M : Nat) (r : V) (H1 : Hp) : Bool :=
  (r.ids.all fun b => (ids H0).contains b || Nat.blt b M) && (H1.all fun x => ((ids H0).contains x.1 || Nat.blt x.1 M && wrt x.2) && x.2.ids.all fun b => (ids H0).contains b || Nat.blt b M) && (ids H0).all fun b => (ids H1).contains b
theorem lkB_map {τ : Nat → Nat} {g : Blk → Blk} {H : Hp} {b : Nat} {k : Blk} (h : lkB (H.map fun x => (τ x.1, g x.2)) b = some k) : ∃ b1 k1, lkB H b1 = some k1 ∧ b = τ b1 ∧ k = g k1 := by
  induction H with
  | nil => simp [lkB] at h
  | cons x r ih =>
    obtain ⟨i, y⟩ := x
    simp only [List.map_cons] at h
    rw [lkB_cons] at h
    split at h
    · rename_i e; injection h with h
      exact ⟨i, y, by rw [lkB_cons, if_pos rfl], e.symm, h.symm⟩
    · rename_i e
      obtain ⟨b1, k1, h1, h2, h3⟩ := ih h
      refine ⟨b1, k1, ?_, h2, h3⟩
      rw [lkB_cons, if_neg]
      · exact h1
      · rintro rfl; exact e h2.symm
theorem lkB_map_none {τ : Nat → Nat} {g : Blk → Blk} {H : Hp} {b : Nat} (h : lkB (H.map fun x => (τ x.1, g x.2)) b = none) : ∀ b1 ∈ ids H, τ b1 ≠ b := by
  induction H with
  | nil => simp [ids]
  | cons x r ih =>
    obtain ⟨i, y⟩ := x
    simp only [List.map_cons] at h
    rw [lkB_cons] at h
    split at h
    · cases h
    · rename_i e
      intro b1 hb1
      simp only [ids, List.map_cons, List.mem_cons] at hb1
      rcases hb1 with rfl | hb1
      · exact e
      · exact ih h b1 hb1

mutual
theorem mem_ids_ren {τ : Nat → Nat} : ∀ {v : V} {b : Nat}, b ∈ (ren τ v).ids → ∃ b1 ∈ v.ids, b = τ b1
  | .ptr b o, b', h => by simp [ren, V.ids] at h; exact ⟨b, by simp [V.ids], h⟩
  | .slice b o n c, b', h => by simp [ren, V.ids] at h; exact ⟨b, by simp [V.ids], h⟩
  | .tuple vs, b', h => by
    simp only [ren, V.ids] at h ⊢
    exact mem_idss_rens h
  | .agg vs, b', h => by
    simp only [ren, V.ids] at h ⊢
    exact mem_idss_rens h
  | .func f a c, b', h => by
    simp only [ren, V.ids, List.mem_append] at h ⊢
    rcases h with h | h
    · obtain ⟨b1, h1, h2⟩ := mem_idss_rens h; exact ⟨b1, .inl h1, h2⟩
    · obtain ⟨b1, h1, h2⟩ := mem_idss_rens h; exact ⟨b1, .inr h1, h2⟩
  | .bot, b', h => by simp [ren, V.ids] at h
  | .int n, b', h => by simp [ren, V.ids] at h
  | .bool b, b', h => by simp [ren, V.ids] at h
  | .arr l, b', h => by simp [ren, V.ids] at h
  | .nilsl, b', h => by simp [ren, V.ids] at h
  | .raw v, b', h => by simp [ren, V.ids] at h
theorem mem_idss_rens {τ : Nat → Nat} : ∀ {l : List V} {b : Nat}, b ∈ idss (rens τ l) → ∃ b1 ∈ idss l, b = τ b1
  | [], b', h => by simp [rens, idss] at h
  | v :: r, b', h => by
    simp only [rens, idss, List.mem_append] at h ⊢
    rcases h with h | h
    · obtain ⟨b1, h1, h2⟩ := mem_ids_ren h; exact ⟨b1, .inl h1, h2⟩
    · obtain ⟨b1, h1, h2⟩ := mem_idss_rens h; exact ⟨b1, .inr h1, h2⟩
end
theorem St.called {ρ0 ρ ρ1 : Nat → Nat} {w0 w w' : World} {a : Act} {σ : Nat → Nat} {gl' : List (Nat × Nat)} {H0 H1 : Hp} {M : Nat} {r : V} (hs : St c ρ0 w0 ρ s a w) (hfit : Fits c s σ gl' H0) (hM : s.n + M ≤ 1000) (hsc : scM H0 M r H1 = true)
    (hr : HR ρ1 H1 w') (hi : Inv (ids H0) (wids H0) (fun b => ρ (σ b)) w ρ1 H1 w') :
    ∃ ρ', St c ρ0 w0 ρ' (after H0 σ M s H1) a w' ∧ rv ρ' (ren (σ' H0 σ s.n) r) = rv ρ1 r ∧ sc (s.n + M) (ren (σ' H0 σ s.n) r).ids = true ∧ ∀ b, ¬ (s.n ≤ b ∧ b < s.n + M) → ρ' b = ρ b := by
  simp only [scM, Bool.and_eq_true, List.all_eq_true, Bool.or_eq_true, Nat.blt_eq, List.contains_iff_mem] at hsc
  obtain ⟨⟨hsr, hs1⟩, hs0⟩ := hsc
  -- σ on the contract's ids stays out of the fresh range
  have hold : ∀ b ∈ ids H0, ∃ k, lkB s.H (σ b) = some k ∧ k ≠ .dead := fun b hb => by
    obtain ⟨k, hk⟩ := mem_ids_of hb
    exact ⟨_, vH_lk hfit.hp hk, ren_dead (live_of hfit.live hk)⟩
  have holdw : ∀ d ∈ wids H0, ∃ k, lkB s.H (σ d) = some k ∧ k ≠ .dead ∧ wrt k = true := fun d hd => by
    obtain ⟨k, hk, hw⟩ := wids_mem hd
    exact ⟨_, vH_mem hfit.hp hk, ren_dead (live_ne (List.all_eq_true.1 hfit.live _ hk)), by rw [wrt_ren]; exact hw⟩
  have hnf : ∀ b k, lkB s.H b = some k → ¬ (s.n ≤ b ∧ b < s.n + M) := fun b k hk hb => by
    have := (hs.wf.fresh b hb.1 (by omega)).1; rw [hk] at this; cases this
  let ρ' : Nat → Nat := fun b => if s.n ≤ b ∧ b < s.n + M then ρ1 (b - s.n) else ρ b
  have e1 : ∀ b, (b ∈ ids H0 ∨ b < M) → ρ' (σ' H0 σ s.n b) = ρ1 b := fun b hb => by
    by_cases h0 : b ∈ ids H0
    · obtain ⟨k, hk, _⟩ := hold b h0
      simp only [ρ', σ', List.contains_iff_mem, h0, if_true, if_neg (hnf _ _ hk)]
      exact (hi.fix b h0).symm
    · have hbM : b < M := hb.resolve_left h0
      simp only [ρ', σ', List.contains_iff_mem, h0, if_false]
      rw [if_pos (by omega)]
      congr 1; omega
  have e2 : ∀ b, ¬ (s.n ≤ b ∧ b < s.n + M) → ρ' b = ρ b := fun b hb => by simp only [ρ', if_neg hb]
  have hscb : ∀ b, (b ∈ ids H0 ∨ b < M) → σ' H0 σ s.n b < s.n + M ∨ 1000 ≤ σ' H0 σ s.n b := fun b hb => by
    by_cases h0 : b ∈ ids H0
    · obtain ⟨k, hk, _⟩ := hold b h0
      simp only [σ', List.contains_iff_mem, h0, if_true]
      by_cases hf : s.n ≤ σ b ∧ σ b < 1000
      · have := (hs.wf.fresh _ hf.1 hf.2).1; rw [hk] at this; cases this
      · omega
    · have hbM : b < M := hb.resolve_left h0
      simp only [σ', List.contains_iff_mem, h0, if_false]; omega
  have hidr : ∀ (v : V), (∀ b ∈ v.ids, b ∈ ids H0 ∨ b < M) → rv ρ' (ren (σ' H0 σ s.n) v) = rv ρ1 v := fun v hv => by
    rw [rv_ren]; exact rv_congr v fun b hb => e1 b (hv b hb)
  -- a lookup in the new heap
  have look : ∀ b k, lkB (after H0 σ M s H1).H b = some k → (∃ b1 k1, lkB H1 b1 = some k1 ∧ b = σ' H0 σ s.n b1 ∧ k = k1.ren (σ' H0 σ s.n)) ∨ (lkB s.H b = some k ∧ ∀ b1 ∈ ids H1, σ' H0 σ s.n b1 ≠ b) := fun b k hl => by
    simp only [after, lkB_append] at hl
    split at hl
    · rename_i k' hk'; injection hl with hl; subst hl; exact .inl (lkB_map hk')
    · rename_i hn; exact .inr ⟨hl, lkB_map_none hn⟩
  have kd : ∀ {k1 : Blk}, k1.ren (σ' H0 σ s.n) ≠ .dead → k1 ≠ .dead := fun {k1} h e => by subst e; exact h rfl
  have hid1 : ∀ b1 k1, lkB H1 b1 = some k1 → (b1 ∈ ids H0 ∨ b1 < M) ∧ ∀ b ∈ k1.ids, b ∈ ids H0 ∨ b < M := fun b1 k1 h => by
    have := hs1 _ (lkB_mem h)
    exact ⟨this.1.imp id fun h => h.1, this.2⟩
  have hidw : ∀ b1 k1, lkB H1 b1 = some k1 → wrt k1 = true ∨ b1 ∈ ids H0 := fun b1 k1 h => by
    have := hs1 _ (lkB_mem h)
    rcases this.1 with h | h
    · exact .inr h
    · exact .inl h.2
  -- an old live block that the call did not get stays as it was
  have keep : ∀ b k, lkB s.H b = some k → k ≠ .dead → (∀ b1 ∈ ids H1, σ' H0 σ s.n b1 ≠ b) → ∀ d ∈ wids H0, ρ (σ d) ≠ ρ b := fun b k hl hd hne d hd0 he => by
    obtain ⟨k', hk', hd', hw'⟩ := holdw d hd0
    have hbd := hs.cc.hr.2 _ _ _ _ hk' hl hd' hd (.inl hw') he
    have hd1 := wids_ids hd0
    have := hne d (hs0 d hd1)
    simp only [σ', List.contains_iff_mem, hd1, if_true] at this
    exact this hbd
  -- a block of the call's and an old one do not lie at one place
  have apart : ∀ b1 k1 b k, lkB H1 b1 = some k1 → k1 ≠ .dead → lkB s.H b = some k → k ≠ .dead → (∀ b2 ∈ ids H1, σ' H0 σ s.n b2 ≠ b) → (wrt k1 = true ∨ wrt k = true) → ρ1 b1 ≠ ρ b := fun b1 k1 b k g1 d1 f1 d2 f2 hw he => by
    rcases hidw b1 k1 g1 with hw1 | h0
    · rcases hi.own b1 k1 g1 d1 hw1 with ⟨d, hd0, hd1⟩ | hge
      · exact keep b k f1 d2 f2 d hd0 (hd1.symm.trans he)
      · have := hs.cc.live_lt f1 d2; omega
    · cases hwk : wrt k1 with
      | true =>
        rcases hi.own b1 k1 g1 d1 hwk with ⟨d, hd0, hd1⟩ | hge
        · exact keep b k f1 d2 f2 d hd0 (hd1.symm.trans he)
        · have := hs.cc.live_lt f1 d2; omega
      | false =>
        have hwb : wrt k = true := by rcases hw with h | h; · rw [hwk] at h; cases h
                                      · exact h
        obtain ⟨k', hk', hd'⟩ := hold b1 h0
        have hfx := hi.fix b1 h0
        have hbd := hs.cc.hr.2 _ _ _ _ hk' f1 hd' d2 (.inr hwb) (hfx.symm.trans he)
        have := f2 b1 (hs0 b1 h0)
        simp only [σ', List.contains_iff_mem, h0, if_true] at this
        exact this hbd
  refine ⟨ρ', ⟨⟨⟨fun b k hl hd => ?_, fun b b' k k' h1 h2 d1 d2 hw12 he => ?_⟩, fun b hb => ?_, fun b k hl hd hwk => ?_, hi.os.trans hs.cc.inv.os, hi.tape.trans hs.cc.inv.tape, hi.out.trans hs.cc.inv.out, Nat.le_trans hs.cc.inv.drw hi.drw, Nat.le_trans hs.cc.inv.size hi.size, fun i hil hid => ?_⟩,
    ⟨hs.fr.1, hs.fr.2.1, fun t v hv => (hs.fr.2.2 t v hv).imp id fun e => ?_⟩, ⟨fun b h1 h2 => ?_, fun t v hv b hb => ?_, fun b k hl b' hb' => ?_⟩⟩, hidr r hsr, ?_, e2⟩
  · rcases look b k hl with ⟨b1, k1, h1, rfl, rfl⟩ | ⟨h1, h2⟩
    · obtain ⟨hi1, hi2⟩ := hid1 b1 k1 h1
      obtain ⟨o, ho, hb⟩ := hr.1 b1 k1 h1 (kd hd)
      refine ⟨o, by rw [e1 b1 hi1]; exact ho, ?_⟩
      cases k1 <;> simp only [Blk.ren, BR] at hb ⊢
      · exact hb
      · obtain ⟨xs, hxl, hx, rfl⟩ := hb
        refine ⟨xs, by simpa [rens_eq_map] using hxl, fun i v hv => ?_, rfl⟩
        rw [rens_eq_map] at hv
        simp only [List.getElem?_map, Option.map_eq_some_iff] at hv
        obtain ⟨u, hu, rfl⟩ := hv
        obtain ⟨x, hx1, hx2⟩ := hx i u hu
        refine ⟨x, hx1, hx2.imp (fun e => by subst e; rfl) fun e => ?_⟩
        rw [e]
        exact (hidr u fun b hb => hi2 b (by simpa [Blk.ids] using mem_idss hu hb)).symm
      · exact hb
      · exact hb
    · obtain ⟨o, ho, hb⟩ := hs.cc.hr.1 b k h1 hd
      refine ⟨o, ?_, BR_congr (fun b' hb' => (e2 b' ?_).symm) hb⟩
      · rw [e2 b (hnf b k h1), hi.old _ (hs.cc.live_lt h1 hd) (keep b k h1 hd h2)]; exact ho
      · have := hs.wf.hs b k h1 b' hb'; omega
  · rcases look b k h1 with ⟨b1, k1, g1, rfl, rfl⟩ | ⟨g1, g2⟩ <;> rcases look b' k' h2 with ⟨b2, k2, f1, rfl, rfl⟩ | ⟨f1, f2⟩
    · rw [e1 b1 (hid1 b1 k1 g1).1, e1 b2 (hid1 b2 k2 f1).1] at he
      rw [hr.2 b1 b2 k1 k2 g1 f1 (kd d1) (kd d2) (by rwa [wrt_ren, wrt_ren] at hw12) he]
    · rw [e1 b1 (hid1 b1 k1 g1).1, e2 b' (hnf b' k' f1)] at he
      exact absurd he (apart b1 k1 b' k' g1 (kd d1) f1 d2 f2 (by rwa [wrt_ren] at hw12))
    · rw [e2 b (hnf b k g1), e1 b2 (hid1 b2 k2 f1).1] at he
      exact absurd he.symm (apart b2 k2 b k f1 (kd d2) g1 d1 g2 (by rw [wrt_ren] at hw12; exact hw12.symm))
    · rw [e2 b (hnf b k g1), e2 b' (hnf b' k' f1)] at he
      exact hs.cc.hr.2 b b' k k' g1 f1 d1 d2 hw12 he
  · rw [e2 b]
    · exact hs.cc.inv.fix b hb
    · intro h; exact (hs.wf.fresh b h.1 (by omega)).2 hb
  · rcases look b k hl with ⟨b1, k1, h1, rfl, rfl⟩ | ⟨h1, h2⟩
    · rw [e1 b1 (hid1 b1 k1 h1).1]
      rcases hi.own b1 k1 h1 (kd hd) (by rwa [wrt_ren] at hwk) with ⟨d, hd0, hd1⟩ | hge
      · obtain ⟨k', hk', hd', hw'⟩ := holdw d hd0
        rw [hd1]; exact hs.cc.inv.own _ _ hk' hd' hw'
      · exact .inr (Nat.le_trans hs.cc.inv.size hge)
    · rw [e2 b (hnf b k h1)]; exact hs.cc.inv.own b k h1 hd hwk
  · rw [hi.old i (Nat.lt_of_lt_of_le hil hs.cc.inv.size), hs.cc.inv.old i hil hid]
    intro d hd0 he
    obtain ⟨k', hk', hd', hw'⟩ := holdw d hd0
    rcases hs.cc.inv.own _ _ hk' hd' hw' with ⟨d', h1, h2⟩ | hge
    · exact hid d' h1 (h2.symm.trans he)
    · have : ρ (σ d) = i := he
      omega
  · rw [e]
    congr 1
    refine rv_congr v fun b hb => (e2 b ?_).symm
    have := hs.wf.fs t v hv b hb; omega
  · have h1' : s.n + M ≤ b := h1
    obtain ⟨h3, h4⟩ := hs.wf.fresh b (by omega) h2
    refine ⟨?_, h4⟩
    cases hl : lkB (after H0 σ M s H1).H b with
    | none => rfl
    | some k =>
      rcases look b k hl with ⟨b1, k1, g1, rfl, rfl⟩ | ⟨g1, _⟩
      · have := hscb b1 (hid1 b1 k1 g1).1; omega
      · rw [g1] at h3; cases h3
  · have := hs.wf.fs t v hv b hb
    show b < s.n + M ∨ 1000 ≤ b
    omega
  · show b' < s.n + M ∨ 1000 ≤ b'
    rcases look b k hl with ⟨b1, k1, g1, rfl, rfl⟩ | ⟨g1, _⟩
    · cases k1 <;> simp only [Blk.ren, Blk.ids] at hb' <;> first | (simp at hb'; done) | skip
      rename_i t l
      have key : ∀ (l : List V), (∀ b ∈ idss l, b ∈ ids H0 ∨ b < M) → ∀ b' ∈ idss (rens (σ' H0 σ s.n) l), b' < s.n + M ∨ 1000 ≤ b' := by
        intro l hl' b' hb'
        obtain ⟨b, hb, rfl⟩ := mem_idss_rens hb'
        exact hscb b (hl' b hb)
      exact key l (fun b hb => (hid1 b1 _ g1).2 b (by simpa [Blk.ids] using hb)) b' hb'
    · have := hs.wf.hs b k g1 b' hb'; omega
  · refine sc_iff.2 fun b hb => ?_
    obtain ⟨b1, hb1, rfl⟩ := mem_ids_ren hb
    exact hscb b1 (hsr b1 hb1)

/-! ### the rules -/
/-- a call by a contract; what it leaves is told by its ending -/
theorem OW_callv {ops : Array Oper} {dst : Option Tmp} {ty : TypeId} {pos : String} {af : Array Edge} {rest : List Oper} {op : Op} {f : Nat} {vs args0 : List V} {gl' : List (Nat × Nat)} {H0 : Hp} {R : V → Hp → Prop}
    (run : ∀ ρ0 ρ a w, GR c.gl c.D ρ0 → (∀ b ∈ c.D, ρ b = ρ0 b) → FR c ρ s.F a → (execOp a.eval ⟨dst, op, ty, pos, af, none⟩).run c.P w = .ok (.enter f (rvs ρ vs).toArray) w)
    (con : Con c.P gl' f args0 H0 R) (σ : Nat → Nat) (M : Nat) (hargs : vs = rens σ args0) (hfit : Fits c s σ gl' H0) (hM : Nat.ble (s.n + M) 1000 = true) (hN : okDst c.N dst = true)
    (h : ∀ r H1, R r H1 → scM H0 M r H1 = true ∧ OW c ops Q rest ((after H0 σ M s H1).put dst (ren (σ' H0 σ s.n) r))) : OW c ops Q (⟨dst, op, ty, pos, af, none⟩ :: rest) s := by
  intro ρ0 w0 hgr ρ a w hs
  have hM' : s.n + M ≤ 1000 := Nat.le_of_ble_eq_true hM
  refine wpList_plain rfl fun K hK => ?_
  unfold Oper.wp
  rw [run ρ0 ρ a w hgr hs.cc.inv.fix hs.fr]
  simp only [Oper.upon]
  obtain ⟨hpre, hgl⟩ := hfit.pre hgr hs.cc
  have hc := con.2 _ w hpre hgl
  rw [hargs, rvs_rens]
  refine hc.mono ?_
  rintro e w' ⟨r, H1, ρ1, hR, rfl, hr1, hi1⟩
  obtain ⟨hsc, hk⟩ := h r H1 hR
  obtain ⟨ρ', hs', hv, hscv, _⟩ := hs.called hfit hM' hsc hr1 hi1
  exact hK _ _ (hk ρ0 w0 hgr ρ' _ w' (hs'.put dst _ _ (okDst_lt hN) (.inr hv.symm) hscv))
theorem OW_call {ops : Array Oper} {dst : Option Tmp} {ty : TypeId} {pos : String} {af : Array Edge} {rest : List Oper} {f : Nat} {xs : List Operand} {ats : Array TypeId} {vs args0 : List V} {gl' : List (Nat × Nat)} {H0 : Hp} {R : V → Hp → Prop}
    (con : Con c.P gl' f args0 H0 R) (σ : List (Nat × Nat)) (M : Nat) (hx : evs c s.F xs = some vs) (hargs : vs = rens (ap σ) args0) (hfit : Fits c s (ap σ) gl' H0) (hM : Nat.ble (s.n + M) 1000 = true) (hN : okDst c.N dst = true)
    (h : ∀ r H1, R r H1 → scM H0 M r H1 = true ∧ OW c ops Q rest ((after H0 (ap σ) M s H1).put dst (ren (σ' H0 (ap σ) s.n) r))) :
    OW c ops Q (⟨dst, .call ⟨.value (.func f), xs.toArray, ats⟩, ty, pos, af, none⟩ :: rest) s :=
  OW_callv (fun _ _ _ _ hg hfix hf => run_call rfl con.1 hg hfix hf hx) con (ap σ) M hargs hfit hM hN h
theorem OW_callf {ops : Array Oper} {dst : Option Tmp} {ty : TypeId} {pos : String} {af : Array Edge} {rest : List Oper} {f : Nat} {x : Operand} {xs : List Operand} {ats : Array TypeId} {fst caps vs args0 : List V} {gl' : List (Nat × Nat)} {H0 : Hp} {R : V → Hp → Prop}
    (con : Con c.P gl' f args0 H0 R) (σ : List (Nat × Nat)) (M : Nat) (hv : ev c s.F x = some (.func f fst caps)) (hx : evs c s.F xs = some vs) (hargs : fst ++ vs ++ caps = rens (ap σ) args0) (hfit : Fits c s (ap σ) gl' H0) (hM : Nat.ble (s.n + M) 1000 = true) (hN : okDst c.N dst = true)
    (h : ∀ r H1, R r H1 → scM H0 M r H1 = true ∧ OW c ops Q rest ((after H0 (ap σ) M s H1).put dst (ren (σ' H0 (ap σ) s.n) r))) :
    OW c ops Q (⟨dst, .call ⟨.value x, xs.toArray, ats⟩, ty, pos, af, none⟩ :: rest) s :=
  OW_callv (fun _ _ _ _ hg hfix hf => run_callv rfl con.1 hg hfix hf hv hx) con (ap σ) M hargs hfit hM hN h

/-- a contract of a function that leaves the heap as it was, and answers r -/
def ConQ (P : Program) (gl : List (Nat × Nat)) (f : Nat) (args : List V) (H : Hp) (r : V) : Prop := Con P gl f args H fun r' H' => r' = r ∧ H' = H
theorem BR_ren' {ρ τ : Nat → Nat} {k : Blk} {o : Obj} (h : BR (fun b => ρ (τ b)) k o) : BR ρ (k.ren τ) o := by
  cases k <;> simp only [Blk.ren, BR] at h ⊢
  · exact h
  · obtain ⟨xs, hl, hx, ho⟩ := h
    refine ⟨xs, by simpa [rens_eq_map] using hl, fun i v hv => ?_, ho⟩
    rw [rens_eq_map] at hv
    simp only [List.getElem?_map, Option.map_eq_some_iff] at hv
    obtain ⟨u, hu, rfl⟩ := hv
    obtain ⟨x, hx1, hx2⟩ := hx i u hu
    exact ⟨x, hx1, hx2.imp (fun e => by subst e; rfl) fun e => by rw [e, rv_ren]⟩
  · exact h
  · exact h
/-- the blocks name no ids but those of the heap -/
def closedB (H : Hp) : Bool := H.all fun x => x.2.ids.all fun b => (ids H).contains b
theorem calls_keep {f : Nat} {args0 : List V} {gl' : List (Nat × Nat)} {H H0 : Hp} {r : V} {F : Fr} {n : Nat} (con : ConQ c.P gl' f args0 H0 r) (σ : Nat → Nat) (hfit : Fits c ⟨F, H, n⟩ σ gl' H0) (hr : (r.ids.all fun b => (ids H0).contains b) = true) (hcl : closedB H0 = true)
    {ρ0 ρ : Nat → Nat} {w0 w : World} (hgr : GR c.gl c.D ρ0) (hw : CC c ρ0 w0 ρ H w) : Calls c.P f (rvs (fun b => ρ (σ b)) args0).toArray w fun e w' => e = .returned (rv ρ (ren σ r)) ∧ CC c ρ0 w0 ρ H w' := by
  obtain ⟨hpre, hgl⟩ := hfit.pre hgr hw
  have hc := con.2 _ w hpre hgl
  refine hc.mono ?_
  rintro e w' ⟨r', H1, ρ1, ⟨rfl, rfl⟩, rfl, hr1, hi1⟩
  simp only [List.all_eq_true, List.contains_iff_mem] at hr
  have hold : ∀ b ∈ ids H1, ∃ k, lkB H (σ b) = some k ∧ k ≠ .dead := fun b hb => by
    obtain ⟨k, hk⟩ := mem_ids_of hb
    exact ⟨_, vH_lk hfit.hp hk, ren_dead (live_of hfit.live hk)⟩
  have holdw : ∀ d ∈ wids H1, ∃ k, lkB H (σ d) = some k ∧ k ≠ .dead ∧ wrt k = true := fun d hd => by
    obtain ⟨k, hk, hw⟩ := wids_mem hd
    exact ⟨_, vH_mem hfit.hp hk, ren_dead (live_ne (List.all_eq_true.1 hfit.live _ hk)), by rw [wrt_ren]; exact hw⟩
  refine ⟨?_, ⟨⟨fun b k hl hd => ?_, hw.hr.2⟩, hw.inv.fix, hw.inv.own, hi1.os.trans hw.inv.os, hi1.tape.trans hw.inv.tape, hi1.out.trans hw.inv.out, Nat.le_trans hw.inv.drw hi1.drw, Nat.le_trans hw.inv.size hi1.size, fun i hil hid => ?_⟩⟩
  · congr 1
    rw [rv_ren]
    exact rv_congr _ fun b hb => hi1.fix b (hr b hb)
  · by_cases hb : ∃ b1 ∈ ids H1, σ b1 = b
    · obtain ⟨b1, hb1, rfl⟩ := hb
      obtain ⟨k1, hk1⟩ := mem_ids_of hb1
      have hk : k = k1.ren σ := by have := vH_lk hfit.hp hk1; rw [hl] at this; injection this
      have hd1 : k1 ≠ .dead := live_of hfit.live hk1
      obtain ⟨o, ho, hbr⟩ := hr1.1 b1 k1 hk1 hd1
      rw [hi1.fix b1 hb1] at ho
      simp only [closedB, List.all_eq_true, List.contains_iff_mem] at hcl
      refine ⟨o, ho, ?_⟩
      rw [hk]
      exact BR_ren' (BR_congr (fun b hb => hi1.fix b (hcl _ (lkB_mem hk1) b hb)) hbr)
    · obtain ⟨o, ho, hbr⟩ := hw.hr.1 b k hl hd
      refine ⟨o, ?_, hbr⟩
      rw [hi1.old _ (hw.live_lt hl hd)]
      · exact ho
      · intro d hd0 he
        obtain ⟨k', hk', hd', hw'⟩ := holdw d hd0
        exact hb ⟨d, wids_ids hd0, hw.hr.2 _ _ _ _ hk' hl hd' hd (.inl hw') he⟩
  · rw [hi1.old i (Nat.lt_of_lt_of_le hil hw.inv.size), hw.inv.old i hil hid]
    intro d hd0 he
    obtain ⟨k', hk', hd', hw'⟩ := holdw d hd0
    rcases hw.inv.own _ _ hk' hd' hw' with ⟨d', h1, h2⟩ | hge
    · exact hid d' h1 (h2.symm.trans he)
    · have : ρ (σ d) = i := he
      omega
theorem QOp_callv {dst : Option Tmp} {ty : TypeId} {pos : String} {af : Array Edge} {g : Option (Nat × Bool)} {op : Op} {f : Nat} {vs args0 : List V} {gl' : List (Nat × Nat)} {H0 : Hp} {r : V}
    (run : ∀ ρ0 ρ a w, GR c.gl c.D ρ0 → (∀ b ∈ c.D, ρ b = ρ0 b) → FR c ρ s.F a → (execOp a.eval ⟨dst, op, ty, pos, af, g⟩).run c.P w = .ok (.enter f (rvs ρ vs).toArray) w)
    (con : ConQ c.P gl' f args0 H0 r) (σ : Nat → Nat) (hargs : vs = rens σ args0) (hfit : Fits c s σ gl' H0) (hr : (r.ids.all fun b => (ids H0).contains b) = true) (hcl : closedB H0 = true) :
    QOp c ⟨dst, op, ty, pos, af, g⟩ s (ren σ r) := by
  intro ρ0 w0 hgr ρ a hf hfix w hw
  unfold Oper.quietAt
  rw [run ρ0 ρ a w hgr hfix hf]
  refine ⟨rfl, ?_⟩
  rw [hargs, rvs_rens]
  exact calls_keep con σ hfit hr hcl hgr hw
theorem Q_call {dst : Option Tmp} {ty : TypeId} {pos : String} {af : Array Edge} {g : Option (Nat × Bool)} {f : Nat} {xs : List Operand} {ats : Array TypeId} {vs args0 : List V} {gl' : List (Nat × Nat)} {H0 : Hp} {r : V}
    (con : ConQ c.P gl' f args0 H0 r) (σ : List (Nat × Nat)) (hx : evs c s.F xs = some vs) (hargs : vs = rens (ap σ) args0) (hfit : Fits c s (ap σ) gl' H0) (hr : (r.ids.all fun b => (ids H0).contains b) = true) (hcl : closedB H0 = true) :
    QOp c ⟨dst, .call ⟨.value (.func f), xs.toArray, ats⟩, ty, pos, af, g⟩ s (ren (ap σ) r) :=
  QOp_callv (fun _ _ _ _ hg hfix hf => run_call rfl con.1 hg hfix hf hx) con (ap σ) hargs hfit hr hcl
theorem Q_callf {dst : Option Tmp} {ty : TypeId} {pos : String} {af : Array Edge} {g : Option (Nat × Bool)} {f : Nat} {x : Operand} {xs : List Operand} {ats : Array TypeId} {fst caps vs args0 : List V} {gl' : List (Nat × Nat)} {H0 : Hp} {r : V}
    (con : ConQ c.P gl' f args0 H0 r) (σ : List (Nat × Nat)) (hv : ev c s.F x = some (.func f fst caps)) (hx : evs c s.F xs = some vs) (hargs : fst ++ vs ++ caps = rens (ap σ) args0) (hfit : Fits c s (ap σ) gl' H0) (hr : (r.ids.all fun b => (ids H0).contains b) = true) (hcl : closedB H0 = true) :
    QOp c ⟨dst, .call ⟨.value x, xs.toArray, ats⟩, ty, pos, af, g⟩ s (ren (ap σ) r) :=
  QOp_callv (fun _ _ _ _ hg hfix hf => run_callv rfl con.1 hg hfix hf hv hx) con (ap σ) hargs hfit hr hcl
/-- a function of plain values: no heap at all -/
theorem Q_call0 {dst : Option Tmp} {ty : TypeId} {pos : String} {af : Array Edge} {g : Option (Nat × Bool)} {f : Nat} {xs : List Operand} {ats : Array TypeId} {vs : List V} {r : V}
    (con : ConQ c.P [] f vs [] r) (hx : evs c s.F xs = some vs) (hids : idss vs = []) (hr : r.ids = []) :
    QOp c ⟨dst, .call ⟨.value (.func f), xs.toArray, ats⟩, ty, pos, af, g⟩ s r := by
  have := Q_call (c := c) (s := s) (dst := dst) (ty := ty) (pos := pos) (af := af) (g := g) (ats := ats) con [] hx (rens_id _ _ (fun b hb => by rw [hids] at hb; simp at hb)).symm ⟨trivial, rfl, by simp [ids], by simp⟩ (by simp [hr]) rfl
  rwa [ren_id _ r (fun b hb => by rw [hr] at hb; simp at hb)] at this
theorem Fits.mk' {l : List (Nat × Nat)} {gl' : List (Nat × Nat)} {H0 : Hp} (h1 : vH (ap l) s.H H0) (h2 : allLive H0 = true) (h3 : injB (ap l) (ids H0) = true) (h4 : ∀ x ∈ gl', x.2 ∈ ids H0 ∧ (x.1, ap l x.2) ∈ c.gl) : Fits c s (ap l) gl' H0 :=
  ⟨h1, h2, injB_iff h3, h4⟩

/-- one package variable among the blocks -/
theorem glOk {l : List (Nat × Nat)} {H0 : Hp} {gl : List (Nat × Nat)} {g b : Nat} (h1 : ((ids H0).elem b) = true) (h2 : ap l b = b) (h3 : gl = [(g, b)]) : ∀ x ∈ [(g, b)], x.2 ∈ ids H0 ∧ (x.1, ap l x.2) ∈ gl := by
  intro x hx
  rw [List.mem_singleton] at hx
  subst hx
  rw [h3]
  exact ⟨by simpa using h1, by simp [h2]⟩
/-! ### the end of a function that leaves the heap as it was -/
theorem exitQ {rs : List ResultVar} {r0 : V} {H0 : Hp} {e : Exit} {vs : List V} (he : e = .normal ∨ e = .ret) (n' : Nat) (hvs : RVs c s rs vs) (hr : resV vs = r0) (hn : nb r0 = true) (hH : vH (ap []) s.H H0) (hwf : wfB c.D ⟨[(0, r0)], H0, n'⟩ = true)
    (hinj : injB (ap []) (ids H0) = true) : exitP c rs (fun r' H' => r' = r0 ∧ H' = H0) e s :=
  ⟨he, vs, r0, H0, n', hvs, ⟨ap [], fun _ _ => rfl, ⟨by rw [show ren (ap []) r0 = r0 from ren_id _ _ (fun _ _ => rfl), ← hr]; rfl, trivial⟩, hH, injB_iff hinj, wf_of hwf⟩, hn, rfl, rfl⟩
end
theorem tN {K : S → Prop} {Q : Post} {s : S} (h : K s) : thenP K Q .normal s := h
theorem tR {K : S → Prop} {Q : Post} {s : S} (h : Q .ret s) : thenP K Q .ret s := h
theorem tE {K : S → Prop} {Q : Post} {s : S} {i : Nat} (h : Q (.exit i) s) : thenP K Q (.exit i) s := h
theorem tG {K : S → Prop} {Q : Post} {s : S} {i : Nat} (h : Q (.goto i) s) : thenP K Q (.goto i) s := h
theorem bN {Q : Post} {s : S} {id : Nat} (h : Q .normal s) : inBlockP id Q .normal s := h
theorem bR {Q : Post} {s : S} {id : Nat} (h : Q .ret s) : inBlockP id Q .ret s := h
theorem bG {Q : Post} {s : S} {id i : Nat} (h : Q (.goto i) s) : inBlockP id Q (.goto i) s := h
theorem bE {Q : Post} {s : S} {id : Nat} (h : Q .normal s) : inBlockP id Q (.exit id) s := by simp only [inBlockP, if_true]; exact h
theorem bX {Q : Post} {s : S} {id i : Nat} (hi : Nat.beq i id = false) (h : Q (.exit i) s) : inBlockP id Q (.exit i) s := by
  have : i ≠ id := fun e => by subst e; simp at hi
  simp only [inBlockP, if_neg this]; exact h
end Go.Proofs.YtendffbpmpobnaaDoor
