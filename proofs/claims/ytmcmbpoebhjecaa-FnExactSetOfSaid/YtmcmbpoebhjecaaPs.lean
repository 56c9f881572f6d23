/- Plain laws: sorted lists of points, each once. -/
import Derived.Test.YtmcmbpoebhjecaaPr
namespace Go.Proofs.Ytmcmbpoebhjecaa
set_option linter.unusedVariables false
set_option linter.unusedSimpArgs false
theorem lexC_eq : ∀ {a b : List Int}, a.length = b.length → lexC a b = 0 → a = b
  | [], [], _, _ => rfl
  | [], _ :: _, h, _ => by simp at h
  | _ :: _, [], h, _ => by simp at h
  | x :: a, y :: b, h1, h2 => by
    simp only [lexC] at h2
    split at h2
    · rename_i e; subst e; rw [lexC_eq (by simpa using h1) h2]
    · rename_i e; exact absurd (cmpI_zero h2) e
theorem lexC_neg : ∀ {a b : List Int}, a.length = b.length → lexC b a = -lexC a b
  | [], [], _ => rfl
  | [], _ :: _, h => by simp at h
  | _ :: _, [], h => by simp at h
  | x :: a, y :: b, h1 => by
    simp only [lexC]
    by_cases e : x = y
    · rw [if_pos e, if_pos e.symm, lexC_neg (by simpa using h1)]
    · rw [if_neg e, if_neg (Ne.symm e)]
      unfold cmpI
      split <;> split <;> (try split) <;> omega
theorem lex_total {a b : List Int} (h : a.length = b.length) (hne : a ≠ b) (hn : ¬ lexC a b < 0) : lexC b a < 0 := by
  have h1 := lexC_neg h
  have h2 : lexC a b ≠ 0 := fun e => hne (lexC_eq h e)
  omega
abbrev T3 (L : List (List Int)) : Prop := ∀ x ∈ L, x.length = 3
abbrev PL (L : List (List Int)) : Prop := L.Pairwise fun a b => lexC a b < 0
theorem pl_nodup {L : List (List Int)} (h : PL L) : L.Nodup := by
  refine List.Pairwise.imp ?_ h
  intro a b hab e
  subst e
  rw [lexC_self] at hab
  omega
theorem pl_grow : ∀ {L : List (List Int)}, PL L → growL L = true
  | [], _ => rfl
  | [_], _ => rfl
  | a :: b :: r, h => by
    rw [growL, Bool.and_eq_true, decide_eq_true_eq]
    have h' := List.pairwise_cons.1 h
    exact ⟨h'.1 b (by simp), pl_grow h'.2⟩
/-- two such lists with the same points are one list -/
theorem pl_eq : ∀ {A B : List (List Int)}, T3 A → T3 B → PL A → PL B → (∀ x, x ∈ A ↔ x ∈ B) → A = B
  | [], [], _, _, _, _, _ => rfl
  | [], b :: B, _, _, _, _, h => by have := (h b).2 (by simp); simp at this
  | a :: A, [], _, _, _, _, h => by have := (h a).1 (by simp); simp at this
  | a :: A, b :: B, h1, h2, h3, h4, h => by
    have p1 := List.pairwise_cons.1 h3
    have p2 := List.pairwise_cons.1 h4
    have l1 := h1 a (by simp)
    have l2 := h2 b (by simp)
    have e : a = b := by
      rcases List.mem_cons.1 ((h a).1 (by simp)) with e | e
      · exact e
      · rcases List.mem_cons.1 ((h b).2 (by simp)) with e' | e'
        · exact e'.symm
        · have a1 := p2.1 a e
          have a2 := p1.1 b e'
          have := lexC_neg (l1.trans l2.symm)
          omega
    subst e
    have hA : ∀ x, x ∈ A ↔ x ∈ B := fun x => by
      constructor
      · intro hx
        rcases List.mem_cons.1 ((h x).1 (List.mem_cons_of_mem _ hx)) with e | e
        · subst e; have := p1.1 x hx; rw [lexC_self] at this; omega
        · exact e
      · intro hx
        rcases List.mem_cons.1 ((h x).2 (List.mem_cons_of_mem _ hx)) with e | e
        · subst e; have := p2.1 x hx; rw [lexC_self] at this; omega
        · exact e
    rw [pl_eq (fun x hx => h1 x (List.mem_cons_of_mem _ hx)) (fun x hx => h2 x (List.mem_cons_of_mem _ hx)) p1.2 p2.2 hA]
/-! ### a point is put in -/
def insL (a : List Int) : List (List Int) → List (List Int)
  | [] => [a]
  | x :: r => if lexC a x < 0 then a :: x :: r else x :: insL a r
theorem ins_perm (a : List Int) : ∀ L, (insL a L).Perm (a :: L)
  | [] => List.Perm.refl _
  | x :: r => by
    rw [insL]
    split
    · exact List.Perm.refl _
    · exact ((ins_perm a r).cons x).trans (List.Perm.swap a x r)
theorem ins_mem {a x : List Int} {L : List (List Int)} : x ∈ insL a L ↔ x = a ∨ x ∈ L := by
  rw [(ins_perm a L).mem_iff, List.mem_cons]
theorem ins_len (a : List Int) (L : List (List Int)) : (insL a L).length = L.length + 1 := by rw [(ins_perm a L).length_eq]; rfl
theorem ins_pl {a : List Int} (ha : a.length = 3) : ∀ {L : List (List Int)}, T3 L → PL L → a ∉ L → PL (insL a L)
  | [], _, _, _ => by simp [insL]
  | x :: r, h3, hp, hn => by
    have p := List.pairwise_cons.1 hp
    have hx := h3 x (by simp)
    rw [insL]
    split
    · rename_i h
      refine List.Pairwise.cons (fun y hy => ?_) hp
      rcases List.mem_cons.1 hy with rfl | hy'
      · exact h
      · exact lexC_trans (ha.trans hx.symm) (hx.trans (h3 y hy).symm) h (p.1 y hy')
    · rename_i h
      refine List.Pairwise.cons (fun y hy => ?_) (ins_pl ha (fun y hy => h3 y (List.mem_cons_of_mem _ hy)) p.2 (fun e => hn (List.mem_cons_of_mem _ e)))
      rcases ins_mem.1 hy with rfl | hy'
      · exact lex_total (ha.trans hx.symm) (fun e => hn (e ▸ List.mem_cons_self)) h
      · exact p.1 y hy'
def hasP (L : List (List Int)) (a : List Int) : Bool := L.any fun x => decide (x = a)
theorem hasP_iff {L : List (List Int)} {a : List Int} : hasP L a = true ↔ a ∈ L := by
  rw [hasP, List.any_eq_true]
  constructor
  · rintro ⟨x, hx, e⟩
    rw [decide_eq_true_eq] at e
    exact e ▸ hx
  · intro h
    exact ⟨a, h, decide_eq_true rfl⟩
def putL (L : List (List Int)) (a : List Int) : List (List Int) := if hasP L a = true then L else insL a L
theorem putL_mem {L : List (List Int)} {a x : List Int} : x ∈ putL L a ↔ x = a ∨ x ∈ L := by
  unfold putL
  split
  · rename_i h
    have := hasP_iff.1 h
    constructor
    · exact .inr
    · rintro (rfl | h') <;> assumption
  · exact ins_mem
theorem putL_three {L : List (List Int)} {a : List Int} (h : T3 L) (ha : a.length = 3) : T3 (putL L a) := fun x hx => by
  rcases putL_mem.1 hx with rfl | hx
  · exact ha
  · exact h x hx
theorem putL_pl {L : List (List Int)} {a : List Int} (h3 : T3 L) (hp : PL L) (ha : a.length = 3) : PL (putL L a) := by
  unfold putL
  split
  · exact hp
  · rename_i h; exact ins_pl ha h3 hp (fun e => h (hasP_iff.2 e))
theorem putL_len (L : List (List Int)) (a : List Int) : (putL L a).length ≤ L.length + 1 := by
  unfold putL
  split
  · omega
  · rw [ins_len]; omega
/-- the loop's state: put already, and the list so far -/
def stP (a : List Int) (s : Bool × List (List Int)) (x : List Int) : Bool × List (List Int) := if (!s.1 && decide (lexC a x < 0)) = true then (true, s.2 ++ [a, x]) else (s.1, s.2 ++ [x])
def stL (a : List Int) (d : Bool) (L : List (List Int)) : Bool × List (List Int) := L.foldl (stP a) (d, [])
def enP (a : List Int) (s : Bool × List (List Int)) : List (List Int) := if (!s.1) = true then s.2 ++ [a] else s.2
theorem stL_true (a : List Int) : ∀ (L out : List (List Int)), L.foldl (stP a) (true, out) = (true, out ++ L)
  | [], out => by simp
  | x :: r, out => by
    rw [List.foldl_cons, stP, if_neg (by simp), stL_true a r]
    simp
theorem stL_false (a : List Int) : ∀ (L out : List (List Int)), enP a (L.foldl (stP a) (false, out)) = out ++ insL a L
  | [], out => rfl
  | x :: r, out => by
    rw [List.foldl_cons, stP, insL]
    by_cases h : lexC a x < 0
    · rw [if_pos (by simpa using h), if_pos h, stL_true]
      simp [enP]
    · rw [if_neg (by simpa using h), if_neg h, stL_false a r]
      simp
theorem st_put (a : List Int) (L : List (List Int)) : enP a (stL a (hasP L a) L) = putL L a := by
  unfold putL stL
  split
  · rename_i h
    rw [h, stL_true]
    simp [enP]
  · rename_i h
    rw [Bool.eq_false_iff.2 h, stL_false]
    rfl
theorem stL_snoc {a : List Int} {d : Bool} {L : List (List Int)} {i : Nat} (hi : i < L.length) : stL a d (L.take (i + 1)) = stP a (stL a d (L.take i)) (L.getD i []) := by
  have e : L.take (i + 1) = L.take i ++ [L.getD i []] := by rw [getD_lt hi, List.take_append_getElem hi]
  rw [e, stL, List.foldl_append]
  rfl
theorem stL_inv {a : List Int} (ha : a.length = 3) (d : Bool) : ∀ {L : List (List Int)}, T3 L → T3 (stL a d L).2 ∧ (stL a d L).2.length ≤ 2 * L.length := by
  intro L
  have key : ∀ (L out : List (List Int)) (d : Bool), T3 L → T3 out → T3 (L.foldl (stP a) (d, out)).2 ∧ (L.foldl (stP a) (d, out)).2.length ≤ out.length + 2 * L.length := by
    intro L
    induction L with
    | nil => intro out d _ h; exact ⟨h, by simp⟩
    | cons x r ih =>
      intro out d h h'
      rw [List.foldl_cons]
      have hx := h x (by simp)
      have hr : T3 r := fun y hy => h y (List.mem_cons_of_mem _ hy)
      rw [stP]
      split
      · have := ih (out ++ [a, x]) true hr (fun y hy => by
          rcases List.mem_append.1 hy with hy | hy
          · exact h' y hy
          · simp at hy; rcases hy with rfl | rfl <;> assumption)
        refine ⟨this.1, ?_⟩
        have := this.2
        simp only [List.length_append, List.length_cons, List.length_nil] at this ⊢
        omega
      · have := ih (out ++ [x]) d hr (fun y hy => by
          rcases List.mem_append.1 hy with hy | hy
          · exact h' y hy
          · simp at hy; subst hy; exact hx)
        refine ⟨this.1, ?_⟩
        have := this.2
        simp only [List.length_append, List.length_cons, List.length_nil] at this ⊢
        omega
  intro h
  have := key L [] d h (by intro x hx; cases hx)
  simpa [stL] using this
/-! ### the set of a list -/
def srtV (L : List (List Int)) : List (List Int) := L.foldl putL []
theorem srt_key : ∀ (L out : List (List Int)), T3 L → T3 out → PL out → T3 (L.foldl putL out) ∧ PL (L.foldl putL out) ∧ ∀ x, x ∈ L.foldl putL out ↔ x ∈ out ∨ x ∈ L
  | [], out, _, h, hp => ⟨h, hp, fun x => by simp⟩
  | a :: r, out, h, h', hp => by
    have ha := h a (by simp)
    obtain ⟨k1, k2, k3⟩ := srt_key r (putL out a) (fun y hy => h y (List.mem_cons_of_mem _ hy)) (putL_three h' ha) (putL_pl h' hp ha)
    refine ⟨k1, k2, fun x => ?_⟩
    rw [List.foldl_cons, k3, putL_mem, List.mem_cons]
    constructor
    · rintro ((h | h) | h)
      · exact .inr (.inl h)
      · exact .inl h
      · exact .inr (.inr h)
    · rintro (h | h | h)
      · exact .inl (.inr h)
      · exact .inl (.inl h)
      · exact .inr h
theorem srt_three {L : List (List Int)} (h : T3 L) : T3 (srtV L) := (srt_key L [] h (by intro x hx; cases hx) List.Pairwise.nil).1
theorem srt_pl {L : List (List Int)} (h : T3 L) : PL (srtV L) := (srt_key L [] h (by intro x hx; cases hx) List.Pairwise.nil).2.1
theorem srt_mem {L : List (List Int)} (h : T3 L) {x : List Int} : x ∈ srtV L ↔ x ∈ L := by
  rw [srtV, (srt_key L [] h (by intro x hx; cases hx) List.Pairwise.nil).2.2]
  simp
theorem srt_len : ∀ (L : List (List Int)), (srtV L).length ≤ L.length := by
  have key : ∀ (L out : List (List Int)), (L.foldl putL out).length ≤ out.length + L.length := by
    intro L
    induction L with
    | nil => intro out; simp
    | cons a r ih =>
      intro out
      have h1 := ih (putL out a)
      have h2 := putL_len out a
      rw [List.foldl_cons, List.length_cons]
      omega
  intro L
  have := key L []
  simpa [srtV] using this
theorem srt_is {L S : List (List Int)} (h : T3 L) (h3 : T3 S) (hp : PL S) (hm : ∀ x, x ∈ S ↔ x ∈ L) : S = srtV L :=
  pl_eq h3 (srt_three h) hp (srt_pl h) fun x => by rw [hm, srt_mem h]
theorem srt_pl_self {L : List (List Int)} (h : T3 L) (hp : PL L) : srtV L = L := (srt_is h h hp fun _ => Iff.rfl).symm
theorem srt_put {L : List (List Int)} {a : List Int} (h : T3 L) (ha : a.length = 3) : putL (srtV L) a = srtV (L ++ [a]) := by
  rw [srtV, srtV, List.foldl_append]
  rfl
theorem srt_snoc {L : List (List Int)} {i : Nat} (hi : i < L.length) : srtV (L.take (i + 1)) = putL (srtV (L.take i)) (L.getD i []) := by
  have e : L.take (i + 1) = L.take i ++ [L.getD i []] := by rw [getD_lt hi, List.take_append_getElem hi]
  rw [e, srtV, List.foldl_append]
  rfl
/-! ### neighbours that are equal -/
def ddK (L : List (List Int)) : Nat → List (List Int)
  | 0 => []
  | i + 1 => if i = 0 ∨ L.getD i [] ≠ L.getD (i - 1) [] then ddK L i ++ [L.getD i []] else ddK L i
theorem ddK_le (L : List (List Int)) : ∀ i, (ddK L i).length ≤ i
  | 0 => by simp [ddK]
  | i + 1 => by
    have := ddK_le L i
    rw [ddK]
    split
    · rw [List.length_append, List.length_singleton]; omega
    · omega
theorem ddK_yes {L : List (List Int)} {i : Nat} (h : ¬ L.getD i [] = L.getD (i - 1) []) : ddK L (i + 1) = ddK L i ++ [L.getD i []] := by rw [ddK, if_pos (.inr h)]
theorem ddK_no {L : List (List Int)} {i : Nat} (h0 : 0 < i) (h : L.getD i [] = L.getD (i - 1) []) : ddK L (i + 1) = ddK L i := by rw [ddK, if_neg (by rintro (h' | h'); omega; exact h' h)]
theorem ddK_one (L : List (List Int)) (h : 0 < L.length) : ddK L 1 = L.take 1 := by
  rw [ddK, if_pos (.inl rfl), ddK, List.nil_append]
  match L, h with
  | a :: r, _ => rfl
theorem ddK_take {L : List (List Int)} {i : Nat} (hi : i < L.length) (h : ddK L i = L.take i) (hn : i = 0 ∨ ¬ L.getD i [] = L.getD (i - 1) []) : ddK L (i + 1) = L.take (i + 1) := by
  rw [ddK, if_pos (by rcases hn with h | h; exact .inl h; exact .inr h), h, getD_lt hi, List.take_append_getElem hi]
theorem ddK_lt {L : List (List Int)} {i : Nat} : ∀ {j : Nat}, 0 < i → i < j → L.getD i [] = L.getD (i - 1) [] → (ddK L j).length + 1 ≤ j
  | 0, _, h, _ => by omega
  | j + 1, h0, h, he => by
    by_cases e : i = j
    · subst e
      have := ddK_le L i
      rw [ddK_no h0 he]; omega
    · have := ddK_lt (L := L) (j := j) h0 (by omega) he
      rw [ddK]
      split
      · rw [List.length_append, List.length_singleton]; omega
      · omega
theorem ddK_sub (L : List (List Int)) : ∀ i, i ≤ L.length → (ddK L i).Sublist (L.take i)
  | 0, _ => by simp [ddK]
  | i + 1, h => by
    have ih := ddK_sub L i (by omega)
    have e : L.take (i + 1) = L.take i ++ [L.getD i []] := by rw [getD_lt (by omega), List.take_append_getElem (by omega)]
    rw [ddK, e]
    split
    · exact List.Sublist.append ih (List.Sublist.refl _)
    · exact ih.trans (List.sublist_append_left _ _)
theorem ddK_mem (L : List (List Int)) : ∀ i, i ≤ L.length → ∀ x, x ∈ L.take i → x ∈ ddK L i
  | 0, _, x, h => by simp at h
  | i + 1, hi, x, h => by
    have ih := ddK_mem L i (by omega)
    have e : L.take (i + 1) = L.take i ++ [L.getD i []] := by rw [getD_lt (by omega), List.take_append_getElem (by omega)]
    rw [e] at h
    rw [ddK]
    rcases List.mem_append.1 h with h | h
    · split
      · exact List.mem_append_left _ (ih x h)
      · exact ih x h
    · rw [List.mem_singleton] at h
      split
      · exact List.mem_append_right _ (by rw [h]; simp)
      · rename_i hc
        have hc' : ¬ i = 0 ∧ L.getD i [] = L.getD (i - 1) [] := by
          constructor
          · exact fun e => hc (.inl e)
          · rcases Classical.em (L.getD i [] = L.getD (i - 1) []) with e | e
            · exact e
            · exact absurd (.inr e) hc
        refine ih x ?_
        rw [h, hc'.2, List.mem_take_iff_getElem]
        exact ⟨i - 1, by omega, by rw [getD_lt (by omega)]⟩
/-- in a list that does not fall, what is left grows -/
theorem ddK_pl {L : List (List Int)} (h3 : T3 L) (hs : L.Pairwise fun a b => ¬ lexC b a < 0) : ∀ i, i ≤ L.length → PL (ddK L i)
  | 0, _ => List.Pairwise.nil
  | i + 1, hi => by
    have ih := ddK_pl h3 hs i (by omega)
    rw [ddK]
    split
    · rename_i hc
      refine List.pairwise_append.2 ?_
      refine ⟨ih, by simp, fun a ha b hb => ?_⟩
      rw [List.mem_singleton] at hb
      subst hb
      rcases Nat.eq_zero_or_pos i with h0 | h0
      · subst h0; simp [ddK] at ha
      · have hne : L.getD i [] ≠ L.getD (i - 1) [] := by
          rcases hc with e | e
          · omega
          · exact e
        have key : ∀ j, j < i → lexC (L.getD j []) (L.getD i []) < 0 := fun j hj => by
          have lj := h3 _ (getD_mem (show j < L.length by omega))
          have li := h3 _ (getD_mem (show i < L.length by omega))
          have lp := h3 _ (getD_mem (show i - 1 < L.length by omega))
          have a1 := List.pairwise_iff_getElem.1 hs (i - 1) i (by omega) (by omega) (by omega)
          rw [← getD_lt (show i < L.length by omega), ← getD_lt (show i - 1 < L.length by omega)] at a1
          have a2 : lexC (L.getD (i - 1) []) (L.getD i []) < 0 := lex_total (li.trans lp.symm) hne a1
          by_cases e : j = i - 1
          · subst e; exact a2
          · have a3 := List.pairwise_iff_getElem.1 hs j (i - 1) (by omega) (by omega) (by omega)
            rw [← getD_lt (show j < L.length by omega), ← getD_lt (show i - 1 < L.length by omega)] at a3
            by_cases e2 : L.getD (i - 1) [] = L.getD j []
            · rw [← e2]; exact a2
            · exact lexC_trans (lj.trans lp.symm) (lp.trans li.symm) (lex_total (lp.trans lj.symm) e2 a3) a2
        have ha' := (ddK_sub L i (by omega)).subset ha
        obtain ⟨j, hj, rfl⟩ := List.mem_take_iff_getElem.1 ha'
        have := key j (by omega)
        rwa [getD_lt (show j < L.length by omega)] at this
    · exact ih
def ddL (L : List (List Int)) : List (List Int) := ddK L L.length
theorem ddL_len (L : List (List Int)) : (ddL L).length ≤ L.length := ddK_le L L.length
theorem ddL_srt {L S : List (List Int)} (h3 : T3 L) (hm : S.Perm L) (hs : S.Pairwise fun a b => ¬ lexC b a < 0) : ddL S = srtV L := by
  have hS : T3 S := fun x hx => h3 x (hm.mem_iff.1 hx)
  refine srt_is h3 (fun x hx => hS x ?_) (ddK_pl hS hs S.length (Nat.le_refl _)) fun x => ?_
  · have := (ddK_sub S S.length (Nat.le_refl _)).subset hx
    rwa [List.take_length] at this
  · rw [← hm.mem_iff]
    constructor
    · intro hx
      have := (ddK_sub S S.length (Nat.le_refl _)).subset hx
      rwa [List.take_length] at this
    · intro hx
      exact ddK_mem S S.length (Nat.le_refl _) x (by rwa [List.take_length])
/-- the row while it is made compact -/
def cmM (L : List (List Int)) (j : Nat) (junk sp : List Int) : List Int := (ddK L j).flatten ++ (junk ++ ((L.drop (j - 1)).flatten ++ sp))
theorem drop_getD {L : List (List Int)} {j q : Nat} (hq : j ≤ q) : (L.drop j).getD (q - j) [] = L.getD q [] := by
  simp only [List.getD, List.getElem?_drop]
  rw [show j + (q - j) = q by omega]
theorem cm_get {L : List (List Int)} {j q : Nat} {junk sp : List Int} (h : T3 L) (hq : j - 1 ≤ q) (hql : q < L.length) (hju : junk.length + (ddK L j).length * 3 = (j - 1) * 3) (hd : T3 (ddK L j)) : ((cmM L j junk sp).drop (q * 3)).take 3 = L.getD q [] := by
  have h1 := flat3 hd
  have h2 : ((ddK L j).flatten ++ junk).length = (j - 1) * 3 := by rw [List.length_append, h1]; omega
  unfold cmM
  rw [← List.append_assoc, show q * 3 = (j - 1) * 3 + (q - (j - 1)) * 3 by omega, ← List.drop_drop, List.drop_left' h2, flat_get (fun x hx => h x (List.mem_of_mem_drop hx)) (by rw [List.length_drop]; omega), drop_getD hq]
theorem cm_len {L : List (List Int)} {j : Nat} {junk sp : List Int} (h : T3 L) (h0 : 0 < j) (hj : j ≤ L.length) (hju : junk.length + (ddK L j).length * 3 = (j - 1) * 3) (hd : T3 (ddK L j)) : (cmM L j junk sp).length = L.length * 3 + sp.length := by
  have h1 := flat3 hd
  have h2 : (L.drop (j - 1)).flatten.length = (L.length - (j - 1)) * 3 := by rw [flat3 (fun x hx => h x (List.mem_of_mem_drop hx)), List.length_drop]
  unfold cmM
  rw [List.length_append, List.length_append, List.length_append, h1, h2]
  omega
theorem drop_pre {L : List (List Int)} {j : Nat} (h0 : 0 < j) (hj : j ≤ L.length) : L.drop (j - 1) = L.getD (j - 1) [] :: L.drop j := by
  have h := List.drop_eq_getElem_cons (show j - 1 < L.length by omega)
  rw [getD_lt (by omega), h, show j - 1 + 1 = j by omega]
theorem cm_skip {L : List (List Int)} {j : Nat} {junk sp : List Int} (h0 : 0 < j) (hj : j < L.length) (he : L.getD j [] = L.getD (j - 1) []) : cmM L j junk sp = cmM L (j + 1) (junk ++ L.getD (j - 1) []) sp := by
  unfold cmM
  rw [ddK_no h0 he, drop_pre h0 (by omega), show j + 1 - 1 = j by omega]
  simp
theorem cm_keep {L : List (List Int)} {j : Nat} {junk sp : List Int} (h : T3 L) (h0 : 0 < j) (hj : j < L.length) (he : ¬ L.getD j [] = L.getD (j - 1) []) (hd : T3 (ddK L j)) :
    putI (cmM L j junk sp) ((ddK L j).length * 3) (L.getD j []) = cmM L (j + 1) ((junk ++ L.getD (j - 1) []).drop 3) sp := by
  have h1 := flat3 hd
  have hx : (L.getD j []).length = 3 := h _ (getD_mem hj)
  have hp : (L.getD (j - 1) []).length = 3 := h _ (getD_mem (by omega))
  have hs : (junk ++ L.getD (j - 1) []).take 3 ++ (junk ++ L.getD (j - 1) []).drop 3 = junk ++ L.getD (j - 1) [] := List.take_append_drop _ _
  unfold cmM
  rw [← h1]
  have e2 : junk ++ ((L.drop (j - 1)).flatten ++ sp) = (junk ++ L.getD (j - 1) []).take 3 ++ ((junk ++ L.getD (j - 1) []).drop 3 ++ ((L.drop j).flatten ++ sp)) := by
    rw [← List.append_assoc (List.take _ _), hs, drop_pre h0 (by omega), List.flatten_cons]; simp
  rw [e2, putI_at _ _ _ _ (by rw [List.length_take, List.length_append, hx, hp]; omega), ddK_yes he, List.flatten_append, show j + 1 - 1 = j by omega]
  simp
theorem cm_end {L : List (List Int)} {junk sp : List Int} (h : T3 L) (h0 : 0 < L.length) (hju : junk.length + (ddL L).length * 3 = (L.length - 1) * 3) (hd : T3 (ddL L)) :
    putI (cmM L L.length junk sp) ((ddL L).length * 3) (List.replicate ((L.length - (ddL L).length) * 3) 0) = (ddL L).flatten ++ (List.replicate ((L.length - (ddL L).length) * 3) 0 ++ sp) := by
  have h1 := flat3 hd
  have hp : (L.getD (L.length - 1) []).length = 3 := h _ (getD_mem (by omega))
  have e : L.drop (L.length - 1) = [L.getD (L.length - 1) []] := by rw [drop_pre h0 (Nat.le_refl _), List.drop_length]
  unfold cmM
  rw [e]
  change putI ((ddL L).flatten ++ _) _ _ = _
  rw [← h1]
  have e2 : junk ++ ([L.getD (L.length - 1) []].flatten ++ sp) = (junk ++ L.getD (L.length - 1) []) ++ sp := by simp
  rw [e2, putI_at _ _ _ _ (by rw [List.length_replicate, List.length_append, hp]; omega)]
theorem ddK_three {L : List (List Int)} (h : T3 L) {i : Nat} (hi : i ≤ L.length) : T3 (ddK L i) := fun x hx => h x (List.mem_of_mem_take ((ddK_sub L i hi).subset hx))
theorem cm_start {L : List (List Int)} {i : Nat} {sp : List Int} (h0 : 0 < i) (hi : ddK L i = L.take i) (he : L.getD i [] = L.getD (i - 1) []) : L.flatten ++ sp = cmM L (i + 1) [] sp := by
  unfold cmM
  rw [ddK_no h0 he, hi, show i + 1 - 1 = i by omega, List.nil_append, ← List.append_assoc, ← List.flatten_append, List.take_append_drop]
theorem ddL_small {L : List (List Int)} (h : L.length < 2) : ddL L = L := by
  match L, h with
  | [], _ => rfl
  | [a], _ => rfl
end Go.Proofs.Ytmcmbpoebhjecaa
